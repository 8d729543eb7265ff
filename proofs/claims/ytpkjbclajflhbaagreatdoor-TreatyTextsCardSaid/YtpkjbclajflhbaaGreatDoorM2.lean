/- Contracts and laws for the proof, joined by a program. No condition. -/
import Derived.Test.YtpkjbclajflhbaaGreatDoorM1
set_option linter.all false
noncomputable section
open Go Go.Conc
namespace Go.TM
section
section
variable {X:XP} {C:Ctx} {main:Bool} {R:Goroutine->LH->Prop} {cs:List Frame} {fn:FI} {ds:List Deferred} {rd:Option Nat} {Q:Leaf->LH->Prop}
def exed(Lm:Nat->Bool)(pend:List PE):List PE:=pend.filter fun p=>Lm p.i
variable {e:Env}{ops:Array Oper}{ro:List Nat}{PB:Nat->Prop}{k:List Item}
theorem Zu{a:Nat->Bool}{pend:List PE}{p:PE}:p∈exed a pend↔p∈pend/\a p.i=true:=by simp[exed]
structure DI(X:XP)(C:Ctx)(ro:List Nat)(PB:Nat->Prop)(ops:Array Oper)(Lm:Nat->Bool)(L:List Nat)(e:Env)(pend:List PE)(σ:Nat->Nat)(tmps:Array Value)(hp:Cells)(h:LH):Prop where
 sub:∀ i∈L,Lm i=true
 sup:∀ i,Lm i=true->i∈L\/i∈idxL pend
 sim:Sim σ ro PB (penvE (exed Lm pend) e) tmps hp
 ops_:∀ p∈pend,ops[p.i]?=some p.o/\p.o.dst=some p.d
 good:∀ p∈pend,p.d<4096/\p.d<tmps.size/\p.a≠.bad
 apart:Apart pend
 looks:∀ p∈pend,∀ p'∈pend,p'.d∈looksL ops p.o->p'.i∈predsOf p.o
 gone:∀ p∈pend,e.get p.d=none
 prom:∀ p∈pend,Prom X C ro ops (penvE pend e) p h
theorem Apart.exed{l:List PE}(h:Apart l)(a:Nat->Bool):Apart (exed a l):=h.filter _
theorem Hu{l a:List PE}{f:Env}(g:Apart l)(b:Apart a){s:Nat}(h1:∀ p∈l,p.d=s->p∈a)(h2:∀ p∈a,p.d=s->p∈l)(he:e.get s=f.get s):(penvE l e).get s=(penvE a f).get s:=by
 by_cases c:∃ p∈l,p.d=s
 ·obtain⟨p,hp,rfl⟩:=c;rw[Kc g hp,Kc b (h1 p hp rfl)]
 ·rw[Kd (fun p hp e=>c ⟨p,hp,e⟩),Kd (fun p hp e=>c ⟨p,h2 p hp e,e⟩),he]
theorem seenOk_spec{b pr:List Nat}:∀ {l:List PE},seenOk b pr l=true->∀ p∈l,p.d∈b->p.i∈pr:=by
 intro l
 induction l with
 | nil=>intro _ p hp;cases hp
 | cons q l c =>
  intro h p hp a;rw[seenOk]at h;simp only[Bool.and_eq_true,Bool.or_eq_true,Bool.not_eq_true',Jq,Ht]at h;rcases List.mem_cons.1 hp with rfl|hp
  ·rcases h.1 with h'|h'
   ·exact absurd a h'
   ·exact h'
  ·exact c h.2 p hp a
theorem unseen_spec{d:Nat}:∀ {l:List PE},unseen ops d l=true->∀ p∈l,d∉looksL ops p.o:=by
 intro l
 induction l with
 | nil=>intro _ p hp;cases hp
 | cons q l a =>
  intro h p hp;rw[unseen]at h;simp only[Bool.and_eq_true,Bool.not_eq_true',Jq]at h;rcases List.mem_cons.1 hp with rfl|hp
  ·exact h.1
  ·exact a h.2 p hp
theorem okRest_spec{dst:Option Tmp}:∀ {l:List PE},okRest dst e l=true->∀ p∈l,e.get p.d=none/\∀ d,dst=some d->d≠p.d/\∀ k j,p.a=.pp k j->k≠d:=by
 intro l
 induction l with
 | nil=>intro _ p hp;cases hp
 | cons q l g =>
  intro h p hp;simp only[okRest,Bool.and_eq_true]at h;rcases List.mem_cons.1 hp with rfl|hp
  ·refine⟨?_,fun d c=>?_⟩
   ·have:=h.1.1;cases f:e.get p.d with
    | none=>rfl
    | some a=>rw[f]at this;cases this
   ·have:=h.1.2;rw[c]at this;simp only[Bool.and_eq_true,Bool.not_eq_true']at this;refine⟨Zj this.1,fun k j b=>?_⟩;have h2:=this.2;rw[b]at h2;exact Zj h2
  ·exact g h.2 p hp
theorem Sim.addL{σ:Nat->Nat}{tmps:Array Value}{hp:Cells}(s:Sim σ ro PB e tmps hp):∀ (l:List PE),(∀ p∈l,p.d<4096/\tmps[p.d]?=some (conc σ p.a))->Sim σ ro PB (penvE l e) tmps hp:=by
 intro l
 induction l with
 | nil=>intro _;exact s
 | cons p l c=>intro h;exact(c fun q b=>h q (by simp[b])).addSlot (h p (by simp)).1 fun _=>(h p (by simp)).2
theorem upto_eq:∀ (n j:Nat),upto j n=(List.range n).map (j+·):=by
 intro n
 induction n with
 | zero=>intro j;rfl
 | succ n b =>
  intro j;rw[upto,b,List.range_succ_eq_map];simp only[List.map_cons,List.map_map,Nat.add_zero];congr 1;apply List.map_congr_left;intro a _;simp only[Function.comp_apply,Nat.succ_eq_add_one];omega
theorem mem_upto0{n i:Nat}:i∈upto 0 n↔i<n:=by rw[upto_eq];simp
theorem drawT_sound(hX:XOK X)(hR:Closed X C.P main R)(j3:X.hat C.P fn ds rd cs){kE:Env->T}{D:List Nat}{N:Nat}
 (hD:∀ (i:Nat) (o:Oper),ops[i]?=some o->∀ d,o.dst=some d->d∈D/\d<N/\d<4096)(hE:edgesOk 0 ops.toList=true) :
  ∀ {r:Nat->Bool} {l:List Nat},Ord ops r l->∀ (n:Nat) (L:List Nat) (e:Env) (pend:List PE) (σ:Nat->Nat) (tmps:Array Value) (hp:Cells) (h:LH),DI X C ro PB ops r L e pend σ tmps hp h->tmps.size=N->Disj h.get hp->(∀ b,PB b->∃ x,hp b=some x) ->
   (drawT C ro ops (upto 0 ops.size) n L e pend kE).wp X C.P Q h->Behind X C.P R fn ds rd cs k D ro PB σ tmps hp kE Q->R (G (mkF fn ds rd tmps (.inRegion ops l::k)) cs) (h.add hp):=by
 intro r l hO
 induction hO with
 | nil r hn =>
  intro n
  induction n with
  | zero=>intro L e pend σ tmps hp h I hN dj E y hk;exact y.elim
  | succ n l3 =>
   intro L e pend σ tmps hp h I hN dj E y hk;have M:=Ord.full hE (.nil r hn);rw[drawT]at y;split at y
   ·-- no float is left: all has h4 carried out
    rename_i i o d U;obtain⟨ho,S,_⟩:=pickF_some U;rcases I.sup i (M i o ho) with h1|h1
    ·exact absurd (by rw[Qw];exact List.mem_append.2 (.inr h1)) S
    ·exact absurd (by rw[Qw];exact List.mem_append.2 (.inl h1)) S
   ·split at y
    ·split at y
     ·have hex:exed r pend=pend:=by
       unfold exed;rw[List.filter_eq_self];intro p H;exact M p.i p.o (I.ops_ p H).1
      have s:=I.sim;rw[hex]at s;exact Wg hR.1 (hk _ tmps σ hp h s dj Fr.refl y)
     ·exact y.elim
    ·rename_i m y3;exfalso;cases hr:readyL ops (appL (idxL pend) L) (upto 0 ops.size) with
     | nil=>exact y3 hr
     | cons j js =>
      have hj:j∈readyL ops (appL (idxL pend) L) (upto 0 ops.size):=by rw[hr];simp
      obtain⟨o,ho,S,_⟩:=Hx.1 (mem_readyL.1 hj).2;rcases I.sup j (M j o ho) with h1|h1
      ·exact absurd (by rw[Qw];exact List.mem_append.2 (.inr h1)) S
      ·exact absurd (by rw[Qw];exact List.mem_append.2 (.inl h1)) S
 | cons r i o l ho q2 y0 hO k3 =>
  intro n
  induction n with
  | zero=>intro L e pend σ tmps hp h I hN dj E y hk;exact y.elim
  | succ n l3 =>
   intro L e pend σ tmps hp h I hN dj E y hk;have l1:∀ d,o.dst=some d->d<tmps.size/\d<4096:=fun d hd=>by rw[hN];exact(hD i o ho d hd).2
   have x2:∀ d,d∈o.dst.toList->d∈D:=fun d hd=>(hD i o ho d (by simpa using hd)).1;by_cases w0:i∈idxL pend
   ·-- a g0 operation is carried out
    obtain⟨p,V,b2⟩:=W3.1 w0;have x0:p.o=o:=by have:=(I.ops_ p V).1;rw[b2,ho]at this;cases this;rfl
    have a3:o.dst=some p.d:=by rw[<- x0];exact(I.ops_ p V).2
    have z:=I.prom p V;rw[Prom,x0]at z;have n1:∀ s∈looksL ops o,(penvE (exed r pend) e).get s=(penvE pend e).get s:=by
     intro s m;refine Hu (I.apart.exed _) I.apart (fun q c _=>(Zu.1 c).1) (fun q c z0=>?_) rfl;refine Zu.2 ⟨c,y0 _ ?_⟩;rw[<- x0];exact I.looks p V q c (by rw[z0,x0];exact m)
    have s0:∀ s,4096<=s->(penvE (exed r pend) e).get s=(penvE pend e).get s:=by
     intro s m;rw[Kd (fun q c g=>absurd (I.good q (Zu.1 c).1).1 (by rw[g];exact Nat.not_lt.2 m)),Kd (fun q c g=>absurd (I.good q c).1 (by rw[g];exact Nat.not_lt.2 m))]
    have a0:=z (penvE (exed r pend) e) (fun m2=>.need (∃ tail:Env,m2=(p.d,p.a)::tail/\∀ s,tail.get s=(penvE (exed r pend) e).get s) (.mem (fun k0=>k0=h) (.leaf (.ret undef)))) (fun _ _=>True) n1 s0
     (fun l2 u=>⟨⟨l2,rfl,u⟩,rfl,trivial⟩)
    refine Wj hX hR j3 (by intro hf;cases hf) ho l1 I.sim dj E a0 ?_;rintro m2 B a1 H h' s' o1 f' ⟨⟨tail,rfl,o0⟩,rfl,_⟩;have j4:∀ q∈pend,q.d=p.d->q=p:=fun q c g=>I.apart.dst c V g;have K:∀ q,q∈exed (fun x=>Nat.beq x i||r x) pend↔q∈pend/\(q=p\/r q.i=true):=by
     intro q;rw[Zu];refine and_congr_right fun c=>?_;simp only[Bool.or_eq_true];constructor
     ·rintro(h1|h1)
      ·exact .inl (I.apart.idx c V (by rw[Jc h1,b2]))
      ·exact .inr h1
     ·rintro(rfl|h1)
      ·exact .inl (by rw[b2];exact Gx i)
      ·exact .inr h1
    have s2:Sim a1 ro PB (penvE (exed (fun x=>Nat.beq x i||r x) pend) e) B H:=by
     refine s'.weak fun t a u=>?_;rw[Q0];by_cases e1:p.d=t
     ·subst e1;rw[if_pos rfl];rw[Kc (I.apart.exed _) ((K p).2 ⟨V,.inl rfl⟩)]at u;exact u
     ·rw[if_neg e1,o0];rw[<- u];refine Hu (I.apart.exed _) (I.apart.exed _) (fun q c z0=>?_) (fun q c z0=>?_) rfl
      ·exact(K q).2 ⟨(Zu.1 c).1,.inr (Zu.1 c).2⟩
      ·obtain⟨h1,h2⟩:=(K q).1 c;rcases h2 with rfl|h2
       ·exact absurd z0 e1
       ·exact Zu.2 ⟨h1,h2⟩
    refine k3 (n+1) L e pend a1 B H h' ⟨fun x f=>by simp[I.sub x f],?_,s2,I.ops_,fun q c=>by rw[f'.size];exact I.good q c,I.apart,I.looks,I.gone,I.prom⟩ (by rw[f'.size];exact hN) o1 (fun b hb=>by rw[f'.prot b hb];exact E b hb) y ?_
    ·intro x f;simp only[Bool.or_eq_true]at f;rcases f with f|f
     ·right;rw[Jc f];exact w0
     ·exact I.sup x f
    ·intro p1 k2 q0 n0 k0 j2 j0 q1 l0;exact hk p1 k2 q0 n0 k0 j2 j0 (f'.trans q1 x2 (fun _ h=>h)) l0
   ·have v3:i∉L:=fun f=>by rw[I.sub i f]at q2;cases q2
    have S:i∉appL (idxL pend) L:=by rw[Qw,List.mem_append];exact fun h1=>h1.elim w0 v3
    have a3:∀ j∈predsOf o,j∈appL (idxL pend) L:=by
     intro j hj;rw[Qw,List.mem_append];exact(I.sup j (y0 j hj)).symm
    rw[drawT]at y;split at y
    ·-- a float is g0
     rename_i i' o' Y U;obtain⟨z2,F,k4,u3,u1⟩:=pickF_some U;split at y
     ·rename_i j1;simp only[Bool.and_eq_true,Bool.not_eq_true',Jq]at j1;obtain⟨⟨⟨c1,c2⟩,c3⟩,c4⟩:=j1;obtain⟨a,tail,o0,h1,re⟩:=guard_re u3 u1 y;obtain⟨g1,h2⟩:=headT_wp h1;have h2:=splitA_wp g1 h2;have x1:=hD i' o' z2 Y u1;have u2:r i'=false:=by
       cases hb:r i' with
       | false=>rfl
       | true =>
        rcases I.sup i' hb with h'|h'
        ·exact absurd (by rw[Qw];exact List.mem_append.2 (.inr h')) F
        ·exact absurd (by rw[Qw];exact List.mem_append.2 (.inl h')) F
      have O:∀ s,s≠Y->(Env.keep (fun s=>!Nat.beq s Y) e).get s=e.get s:=by
       intro s m;rw[Wn,if_pos (by rw[nbeq_ne m];rfl)]
      have Z:(Env.keep (fun s=>!Nat.beq s Y) e).get Y=none:=by
       rw[Wn,if_neg (by rw[Gx];simp)]
      have m1:∀ q∈pend,q.d≠Y:=fun q c g=>c3 (mem_dstL.2 ⟨q,c,g⟩);have o3:Apart (⟨i',o',Y,a⟩::pend):=by
       refine List.Pairwise.cons (fun q c=>⟨fun g=>m1 q c g.symm,fun g=>?_⟩) I.apart;exact F (by rw[Qw];exact List.mem_append.2 (.inl (W3.2 ⟨q,c,g.symm⟩)))
      have hex:exed r (⟨i',o',Y,a⟩::pend)=exed r pend:=by unfold exed;rw[List.filter_cons];simp[u2]
      have w:∀ s,s≠Y->(penvE (⟨i',o',Y,a⟩::pend) (Env.keep (fun s=>!Nat.beq s Y) e)).get s=(penvE pend e).get s:=by
       intro s m;rw[penvE,Q0,if_neg (Ne.symm m)];exact Hu I.apart I.apart (fun q c _=>c) (fun q c _=>c) (O s m)
      refine l3 L _ (⟨i',o',Y,a⟩::pend) σ tmps hp h ⟨I.sub,?_,?_,?_,?_,o3,?_,?_,?_⟩ hN dj E h2 hk
      ·intro x f;rcases I.sup x f with h'|h'
       ·exact .inl h'
       ·exact .inr (by simp[idxL,h'])
      ·rw[hex];refine I.sim.weak fun t b u=>?_;by_cases f:∃ q∈exed r pend,q.d=t
       ·obtain⟨q,c,rfl⟩:=f;rw[Kc (I.apart.exed _) c]at u ⊢;exact u
       ·have z1:∀ q∈exed r pend,q.d≠t:=fun q c g=>f ⟨q,c,g⟩;rw[Kd z1]at u ⊢;by_cases et:t=Y
        ·rw[et,Z]at u;cases u
        ·rw[O t et]at u;exact u
      ·intro q c;rcases List.mem_cons.1 c with rfl|c
       ·exact⟨z2,u1⟩
       ·exact I.ops_ q c
      ·intro q c;rcases List.mem_cons.1 c with rfl|c
       ·exact⟨x1.2.2,by rw[hN];exact x1.2.1,g1⟩
       ·exact I.good q c
      ·intro q c q' e0 hl;rcases List.mem_cons.1 c with rfl|c<;>rcases List.mem_cons.1 e0 with rfl|e0
       ·exact absurd hl c4
       ·exact seenOk_spec c1 q' e0 hl
       ·exact absurd hl (unseen_spec c2 q c)
       ·exact I.looks q c q' e0 hl
      ·intro q c;rcases List.mem_cons.1 c with rfl|c
       ·exact Z
       ·rw[O _ (m1 q c)];exact I.gone q c
      ·intro q c;have ge:∀ s,4096<=s->s≠Y:=fun s m g=>absurd x1.2.2 (by rw[<- g];exact Nat.not_lt.2 m);rcases List.mem_cons.1 c with rfl|c
       ·intro E' k' Q' hl a2 y1;exact re E' k' Q' (fun s m=>(hl s m).trans (w s fun g=>c4 (g▸m))) (fun s m=>(a2 s m).trans (w s (ge s m))) y1
       ·intro E' k' Q' hl a2 y1;exact I.prom q c E' k' Q' (fun s m=>(hl s m).trans (w s fun g=>unseen_spec c2 q c (g▸m))) (fun s m=>(a2 s m).trans (w s (ge s m))) y1
     ·exact y.elim
    ·-- e4 operation is one of e4 ready l4
     have A:i∈readyL ops (appL (idxL pend) L) (upto 0 ops.size):=mem_readyL.2 ⟨mem_upto0.2 (Array.getElem?_eq_some_iff.1 ho).1,Hx.2 ⟨o,ho,S,a3⟩⟩;split at y
     ·rename_i y2;rw[y2]at A;cases A
     ·have u0:=bothL_wp y i A;simp only[ho]at u0;obtain⟨p0,J,b4⟩:=splitP_spec (pr:=predsOf o) (l:=pend);obtain⟨n2,o2⟩:=b4 I.apart;generalize q3:(splitP (predsOf o) pend).1=W at u0 p0 n2;generalize a4:(splitP (predsOf o) pend).2=rest at u0 J o2;have s3:Sim σ ro PB (penvE W e) tmps hp:=by
       refine I.sim.weak fun t b u=>?_;by_cases f:∃ q∈W,q.d=t
       ·obtain⟨q,c,rfl⟩:=f;rw[Kc n2 c]at u;rw[Kc (I.apart.exed _) (Zu.2 ⟨((p0 q).1 c).1,y0 _ ((p0 q).1 c).2⟩)];exact u
       ·have z1:∀ q∈W,q.d≠t:=fun q c g=>f ⟨q,c,g⟩;rw[Kd z1]at u;rw[Kd];exact u;intro q c g;rw[<- g,I.gone q (Zu.1 c).1]at u;cases u
      refine Wj hX hR j3 (by intro hf;cases hf) ho l1 s3 dj E u0 ?_;intro g B a1 H h' s' o1 f' a0;simp only at a0;split at a0
      ·rename_i z3;have m0:=okRest_spec z3;obtain⟨z,n3⟩:=rechk_wp (fun p H=>(I.ops_ p ((J p).1 H).1).2) a0;have x3:∀ q∈pend,q.i≠i:=fun q c e1=>w0 (W3.2 ⟨q,c,e1⟩);refine k3 n (i::appL (idxL W) L) g rest a1 B H h' ⟨?_,?_,?_,fun q c=>I.ops_ q ((J q).1 c).1,fun q c=>by rw[f'.size];exact I.good q ((J q).1 c).1,o2,fun q c q' e0=>I.looks q ((J q).1 c).1 q' ((J q').1 e0).1,fun q c=>(m0 q c).1,z⟩ (by rw[f'.size];exact hN) o1 (fun b hb=>by rw[f'.prot b hb];exact E b hb) n3 ?_
       ·intro x f;simp only[Bool.or_eq_true];rcases List.mem_cons.1 f with rfl|f
        ·exact .inl (Gx _)
        ·rw[Qw,List.mem_append]at f;rcases f with f|f
         ·obtain⟨q,c,rfl⟩:=W3.1 f;exact .inr (y0 _ ((p0 q).1 c).2)
         ·exact .inr (I.sub x f)
       ·intro x f;simp only[Bool.or_eq_true]at f;rcases f with f|f
        ·left;rw[Jc f];simp
        ·rcases I.sup x f with h1|h1
         ·left;exact List.mem_cons_of_mem _ (by rw[Qw];exact List.mem_append.2 (.inr h1))
         ·obtain⟨q,c,rfl⟩:=W3.1 h1;by_cases g3:q.i∈predsOf o
          ·left;exact List.mem_cons_of_mem _ (by rw[Qw];exact List.mem_append.2 (.inl (W3.2 ⟨q,(p0 q).2 ⟨c,g3⟩,rfl⟩)))
          ·right;exact W3.2 ⟨q,(J q).2 ⟨c,g3⟩,rfl⟩
       ·refine s'.addL _ fun q c=>?_;obtain⟨e2,b3⟩:=Zu.1 c;obtain⟨g2,m4⟩:=(J q).1 e2;have m3:r q.i=true:=by
         simp only[Bool.or_eq_true]at b3;rcases b3 with h1|h1
         ·exact absurd (Jc h1) (x3 q g2)
         ·exact h1
        have hg:=I.good q g2;refine⟨hg.1,?_⟩;have hold:=I.sim.slot q.d q.a hg.1 (Kc (I.apart.exed _) (Zu.2 ⟨g2,m3⟩)) hg.2.2;have F:q.d∉o.dst.toList:=by
         intro hm;have:=(m0 q e2).2 q.d (by simpa using hm);exact this.1 rfl
        rw[f'.slots q.d F,hold];cases e3:q.a with
        | val v=>rfl
        | bad=>exact absurd e3 hg.2.2
        | pp kk off =>
         have:kk∉o.dst.toList:=by
          intro hm;exact((m0 q e2).2 kk (by simpa using hm)).2 kk off e3 rfl
         simp only[conc,f'.names kk this]
       ·intro p1 k2 q0 n0 k0 j2 j0 q1 l0;exact hk p1 k2 q0 n0 k0 j2 j0 (f'.trans q1 x2 (fun _ h=>h)) l0
      ·exact a0.elim
theorem mv_draw(a:LClosed C.P main R){id:Nat}{tmps:Array Value}{h:LH}(hm:C.P.follows .mixedOrders=true)(d:∀ l,Ord ops (fun _=>false) l->R (G (mkF fn ds rd tmps (.inRegion ops l::k)) cs) h) :
  R (G (mkF fn ds rd tmps (.code (.region id ops true)::k)) cs) h:=by
 refine a.step _ cs h (fun g' h'=>∃ l,Ord ops (fun _=>false) l/\g'=G (mkF fn ds rd tmps (.inRegion ops l::k)) cs/\h'=h) ?_ ?_
 ·intro w b;refine⟨_,{ w with drawn:=w.drawn+1 },#[],h.get,?_,(let t:=Tr.refl b;⟨t.fits,t.size,t.other,t.part,t.new,t.keep,rfl,rfl,rfl⟩),by simp,_,schedule_ord ops ((Question.order fn.fn id).cut (w.tape w.drawn (.order fn.fn id))),rfl,rfl⟩;simp[G,mkF,stepG,stepG.exec,choose,Sem.run,Question.forced,hm]
 ·rintro _ _ ⟨l,c,rfl,rfl⟩;exact d l c
end
end
section
section
variable {X:XP} {C:Ctx} {main:Bool} {R:Goroutine->LH->Prop}
variable {cs:List Frame} {fn:FI} {ds:List Deferred} {rd:Option Nat} {Q:Leaf->LH->Prop}
variable {P:Program}{e:Env}
theorem Kb(n:Nat):upto 0 n=List.range n:=by rw[upto_eq];simp
theorem K4:∀ {l:List Oper} {o:Oper} {d:Nat},o∈l->o.dst=some d->d∈dsts.go l:=by
 intro l
 induction l with
 | nil=>intro o d h;simp at h
 | cons a l c =>
  intro o d h b;rw[dsts.go];rcases List.mem_cons.1 h with rfl|h
  ·rw[b];simp
  ·cases a.dst with
   | none=>exact c h b
   | some e=>exact List.mem_cons_of_mem _ (c h b)
def XR(R:Goroutine->LH->Prop)(fn:FI)(ds:List Deferred)(rd:Option Nat)(tmps:Array Value)(cs:List Frame)(h:LH)(k:List Item):LExit->Prop
 | .fall=>R (G (mkF fn ds rd tmps k) cs) h
 | .exit id=>∀ k',exitTo id k'=exitTo id k->R (G (mkF fn ds rd tmps (.code (.exit id)::k')) cs) h
 | .ret=>∀ k',R (G (mkF fn ds rd tmps (.code .ret::k')) cs) h
def BehindX(X:XP)(P:Program)(R:Goroutine->LH->Prop)(fn:FI)(ds:List Deferred)(rd:Option Nat)(cs:List Frame)(k:List Item)(D:List Nat)(ro:List Nat)(PB:Nat->Prop)(σ:Nat->Nat)(tmps:Array Value)(hp:Cells)
 (kT:LExit->Env->T)(Q:Leaf->LH->Prop):Prop :=
 ∀ x e' tmps' σ' hp' h',Sim σ' ro PB e' tmps' hp'->Disj h'.get hp'->Fr D PB σ tmps hp σ' tmps' hp'->(kT x e').wp X P Q h'->XR R fn ds rd tmps' cs (h'.add hp') k x
def LeafIs(id:Option Nat)(x:LExit)(vs:List Value)(Q:Leaf->LH->Prop)(h:LH):Prop :=
 match x with
 | .fall=>Q (.again vs) h
 | .ret=>Q (.retn vs) h
 | .exit j=>if some j=id then Q (.brk vs) h else Q (.out j vs) h
theorem Hw{id:Option Nat}{L:List (Nat×Kind)}{x:LExit}{Q:Leaf->LH->Prop}{h:LH}(hw:(leafT id e L x).wp X P Q h):∃ vs,collect e L=some vs/\LeafIs id x vs Q h:=by
 obtain⟨vs,hc,a⟩:=Hq hw;refine⟨vs,hc,?_⟩;cases x with
 | fall=>exact a
 | ret=>exact a
 | exit j =>
  cases id with
  | none=>rw[LeafIs,if_neg (by simp)];exact a
  | some i =>
   rw[LeafIs];simp only at a;cases hb:Nat.beq j i with
   | true=>rw[hb]at a;rw[if_pos (by rw[Jc hb])];exact a
   | false=>rw[hb]at a;rw[if_neg (by simpa using Zj hb)];exact a
theorem ppsOk_spec:∀ {ds:List Nat},ppsOk ds e=true->∀ d∈ds,slotA e d=some (.pp d 0):=by
 intro ds
 induction ds with
 | nil=>intro _ d b;cases b
 | cons a ds f =>
  intro h d b;rw[ppsOk]at h;simp only[Bool.and_eq_true]at h;rcases List.mem_cons.1 b with rfl|b
  ·have h1:=h.1;split at h1
   ·rename_i k o c;simp only[Bool.and_eq_true]at h1;rw[c,Jc h1.1,Jc h1.2]
   ·cases h1
  ·exact f h.2 d b
theorem Sim.addPP{σ:Nat->Nat}{ro:List Nat}{PB:Nat->Prop}{e c:Env}{tmps:Array Value}{hp:Cells}{f:List Nat}{b:Nat->Prop}(s:Sim σ ro PB e tmps hp)(j:Sim σ f b c tmps hp):∀ {ds:List Nat},ppsOk ds c=true->Sim σ ro PB (TM.addPP ds e) tmps hp:=by
 intro ds
 induction ds with
 | nil=>intro _;exact s
 | cons d ds i =>
  intro h;have h0:=ppsOk_spec h d (by simp);have h1:ppsOk ds c=true:=by rw[ppsOk]at h;simp only[Bool.and_eq_true]at h;exact h.2
  obtain⟨a,g⟩:=J2 h0;exact(i h1).addSlot a fun hb=>j.slot d _ a g hb
theorem ppsT_wp{ds:List Nat}{x:LExit}{t:T}{Q:Leaf->LH->Prop}{h:LH}(hw:(ppsT ds e x t).wp X P Q h):t.wp X P Q h/\(x=.fall->ppsOk ds e=true):=by
 unfold ppsT at hw;cases x with
 | fall =>
  simp only at hw;cases hb:ppsOk ds e with
  | true=>rw[hb]at hw;exact⟨hw,fun _=>rfl⟩
  | false=>rw[hb]at hw;exact hw.elim
 | ret=>exact⟨hw,fun e=>by cases e⟩
 | exit j=>exact⟨hw,fun e=>by cases e⟩
theorem Jw(r:LClosed C.P main R){id:Nat}{c:Code}{ro:List Nat}{PB:Nat->Prop}{p:LExit->Env->T}{tmps:Array Value}{k:List Item}{σ:Nat->Nat}{hp:Cells}{h:LH}{Q:Leaf->LH->Prop}
 {t:T}(v:t=tree C false ro c e fun x i=>match x with
   | .exit j=>match Nat.beq j id with
    | true=>p .fall i
    | false=>p (.exit j) i
   | x=>p x i)(u:t.wp X C.P Q h)(o:BehindX X C.P R fn ds rd cs k (dsts (.block id c)) ro PB σ tmps hp p Q)
 (w:∀ m:LExit->Env->T,(tree C false ro c e m).wp X C.P Q h->BehindX X C.P R fn ds rd cs (.inBlock id::k) (dsts c) ro PB σ tmps hp m Q->R (G (mkF fn ds rd tmps (.code c::.inBlock id::k)) cs) (h.add hp)) :
  R (G (mkF fn ds rd tmps (.code (.block id c)::k)) cs) (h.add hp):=by
 subst v;refine Gy r (w _ u ?_);intro x i n f d h' q g s a;have b:Fr (dsts (.block id c)) PB σ tmps hp f n d:=s.mono (fun _ h=>by simpa[dsts] using h) (fun _ h=>h);cases x with
 | fall=>exact Hc r (o .fall i n f d h' q g b a)
 | ret=>exact o .ret i n f d h' q g b a
 | exit j =>
  intro k' l;simp only at a;cases hb:Nat.beq j id with
  | true =>
   rw[hb]at a;refine Df r (k':=k) ?_ (o .fall i n f d h' q g b a);rw[l,Jc hb];simp[exitTo]
  | false =>
   rw[hb]at a;refine o (.exit j) i n f d h' q g b a k' ?_;rw[l];have:(id==j)=false:=by simpa using Ne.symm (Zj hb)
   simp[exitTo,this]
theorem Qu(V:XOK X)(z:Closed X C.P main R)(E:X.hat C.P fn ds rd cs):(c:Code)->∀ (fin:Bool) (ro:List Nat) (PB:Nat->Prop) (e:Env) (L:LExit->Env->T) (tmps:Array Value) (k:List Item) (σ:Nat->Nat) (hp:Cells) (h:LH) (Q:Leaf->LH->Prop),
  (fin=true->k=[]/\ds=[]/\rd=none/\fn.kd=.deferred/\∃ fd,C.P.funcs[fn.fn]?=some fd/\fd.results=#[])->Sim σ ro PB e tmps hp->Disj h.get hp->(∀ b,PB b->∃ x,hp b=some x)->(∀ d∈dsts c,d<tmps.size/\d<4096)->(tree C fin ro c e L).wp X C.P Q h->BehindX X C.P R fn ds rd cs k (dsts c) ro PB σ tmps hp L Q ->
  R (G (mkF fn ds rd tmps (.code c::k)) cs) (h.add hp)
 | .skip=>by
  intro fin ro PB e L tmps k σ hp h Q m s w g B f q;exact mv_skip z.1 (q .fall e tmps σ hp h s w Fr.refl (by simpa[tree] using f))
 | .region id ops draw=>by
  intro fin ro PB e L tmps k σ hp h Q m s w g B f q;cases draw with
  | true =>
   simp only[tree]at f;split at f
   ·rename_i hm hE;refine mv_draw z.1 hm fun l hl=>?_;have I:DI X C ro PB ops (fun _=>false) [] e [] σ tmps hp h :=
     ⟨fun i hi=>(by cases hi),fun i hi=>(by cases hi),s,fun p hp=>(by cases hp),fun p hp=>(by cases hp),List.Pairwise.nil,fun p hp=>(by cases hp),fun p hp=>(by cases hp),fun p hp=>(by cases hp)⟩
    refine drawT_sound V z E (D:=dsts (.region id ops true)) (N:=tmps.size) ?_ hE hl _ [] e [] σ tmps hp h I rfl w g f ?_
    ·intro i o ho d q0;have hm:d∈dsts (.region id ops true):=K4 (Array.mem_toList_iff.2 (Array.mem_of_getElem? ho)) q0;exact⟨hm,B d hm⟩
    ·intro e' O y u h' Y A U H;exact q .fall e' O y u h' Y A U H
   ·exact f.elim
  | false =>
   refine Kh z.1 ?_;simp only[tree]at f;rw[Kb]at f;refine W1 V z E m (D:=dsts (.region id ops false)) _ ?_ s w g f ?_
   ·intro i hi o ho d q0;have hm:d∈dsts (.region id ops false):=K4 (Array.mem_toList_iff.2 (Array.mem_of_getElem? ho)) q0;exact⟨hm,B d hm⟩
   ·intro e' O y u h' Y A U H;exact q .fall e' O y u h' Y A U H
 | .seq a b=>by
  intro fin ro PB e L tmps k σ hp h Q m s w g B f q;have o0:∀ d∈dsts a,d<tmps.size/\d<4096:=fun d h=>B d (by rw[dsts,Qw];simp[h]);have j0:∀ d∈dsts b,d<tmps.size/\d<4096:=fun d h=>B d (by rw[dsts,Qw];simp[h]);have e0:∀ d,d∈dsts a->d∈dsts (.seq a b):=fun d h=>by rw[dsts,Qw];simp[h]
  have p0:∀ d,d∈dsts b->d∈dsts (.seq a b):=fun d h=>by rw[dsts,Qw];simp[h]
  refine Gj z.1 ?_;rw[tree]at f;split at f
  ·rename_i n hn;split at f
   ·rename_i Z;simp only[T.wp]at f;refine Qu V z E a _ _ _ _ _ _ _ _ _ _ _ (by simp) (s.guarded n.ro) w (s.guarded_live n.ro g) o0 f ?_;intro x e' O y u h' Y A U H;obtain⟨H,s0⟩:=ppsT_wp H;obtain⟨vs,hc,hl⟩:=Hw H;obtain⟨S,_⟩:=s.rebind Y U hc Z;have F:Fr (dsts a) PB σ tmps hp y O u:=U.mono (fun _ h=>h) (fun _ h=>.inl h);cases x with
    | fall =>
     have:=Jd hl;refine Qu V z E b _ _ _ _ _ _ _ _ _ _ _ m (S.addPP Y (s0 rfl)) A (fun b hb=>by rw[F.prot b hb];exact g b hb) (by rw[F.size];exact j0) this ?_;intro x n0 W K J g0 m0 M k0 a0;exact q x n0 W K J g0 m0 M (F.trans k0 e0 p0) a0
    | ret =>
     have:=Jd hl;have:=q .ret _ O y u h' S A (F.mono e0 (fun _ h=>h)) this;exact this
    | exit j =>
     rw[LeafIs,if_neg (by simp)]at hl;have:=Jd (Dd hl);exact q (.exit j) _ O y u h' S A (F.mono e0 (fun _ h=>h)) this
   ·exact f.elim
  ·refine Qu V z E a _ _ _ _ _ _ _ _ _ _ _ (by simp) s w g o0 f ?_;intro x e' O y u h' Y A U H;cases x with
   | fall =>
    refine Qu V z E b _ _ _ _ _ _ _ _ _ _ _ m Y A (fun b hb=>by rw[U.prot b hb];exact g b hb) (by rw[U.size];exact j0) H ?_;intro x n0 W K J g0 m0 M k0 a0;exact q x n0 W K J g0 m0 M (U.trans k0 e0 p0) a0
   | ret=>exact q .ret e' O y u h' Y A (U.mono e0 (fun _ h=>h)) H
   | exit j=>exact q (.exit j) e' O y u h' Y A (U.mono e0 (fun _ h=>h)) H
 | .cond c a b=>by
  intro fin ro PB e L tmps k σ hp h Q m s w g B f q;have o0:∀ d∈dsts a,d<tmps.size/\d<4096:=fun d h=>B d (by rw[dsts,Qw];simp[h]);have j0:∀ d∈dsts b,d<tmps.size/\d<4096:=fun d h=>B d (by rw[dsts,Qw];simp[h]);have e0:∀ d,d∈dsts a->d∈dsts (.cond c a b):=fun d h=>by rw[dsts,Qw];simp[h]
  have p0:∀ d,d∈dsts b->d∈dsts (.cond c a b):=fun d h=>by rw[dsts,Qw];simp[h]
  rw[tree]at f;obtain⟨v,hv,f⟩:=Qq f;cases v<;>simp only[T.unB]at f<;>first|exact f.elim|skip
  rename_i t;refine mv_cond z.1 (t:=t) (s.eval hv (by simp)) ?_;cases t with
  | true =>
   refine Qu V z E a _ _ _ _ _ _ _ _ _ _ _ m s w g o0 f ?_;intro x e' O y u h' Y A U H;exact q x e' O y u h' Y A (U.mono e0 (fun _ h=>h)) H
  | false =>
   refine Qu V z E b _ _ _ _ _ _ _ _ _ _ _ m s w g j0 f ?_;intro x e' O y u h' Y A U H;exact q x e' O y u h' Y A (U.mono p0 (fun _ h=>h)) H
 | .block id (.loop body)=>by
  intro fin ro PB e L tmps k σ hp h Q m s w g B f q;have j0:∀ d∈dsts body,d<tmps.size/\d<4096:=fun d h=>B d (by simpa[dsts] using h);rw[tree]at f;split at f
  ·rename_i n hn;split at f
   ·rename_i Z;obtain⟨y0,w0,f⟩:=Hq f;refine Gy z.1 (mv_loop z.1 ?_);have hY:=f fun vs h'=>∀ O y u,Sim y (appL n.ro ro) (prot' PB σ n.ro e) (bindEnv n.slots vs (stays (dsts body) (appL n.ro ro) e)) O u->Disj h'.get u->Fr (dsts body) (prot' PB σ n.ro e) σ tmps hp y O u ->
     R (G (mkF fn ds rd O (.code body::.inLoop body::.inBlock id::k)) cs) (h'.add u)
    refine hY ?_ tmps σ hp (s.rebind (s.guarded n.ro) Fr.refl w0 Z).2 w Fr.refl;intro vs h' hw O y u Y A U;have hw:=Jd hw;refine Qu V z E body _ _ _ _ _ _ _ _ _ _ _ (by simp) Y A (fun b hb=>by rw[U.prot b hb];exact s.guarded_live n.ro g b hb) (by rw[U.size];exact j0) hw ?_;intro x n0 W K J g0 m0 M k0 a0;obtain⟨x0,hc,hl⟩:=Hw a0;have l0:Fr (dsts body) (prot' PB σ n.ro e) σ tmps hp K W J:=U.trans k0 (fun _ h=>h) (fun _ h=>h);obtain⟨S,u0⟩:=s.rebind m0 l0 hc Z;have F:Fr (dsts (.block id (.loop body))) PB σ tmps hp K W J:=l0.mono (fun _ h=>by simpa[dsts] using h) (fun _ h=>.inl h);cases x with
    | fall=>exact mv_inLoop z.1 (hl W K J u0 M l0)
    | ret=>exact q .ret _ W K J g0 S M F (Jd hl)
    | exit j =>
     intro k' r;by_cases hj:j=id
     ·subst hj;rw[LeafIs,if_pos rfl]at hl;have:=q .fall _ W K J g0 S M F (Jd hl);refine Df z.1 (k':=k) ?_ this;rw[r];simp[exitTo]
     ·rw[LeafIs,if_neg (by simpa using hj)]at hl;have:=q (.exit j) _ W K J g0 S M F (Jd (Dd hl));refine this k' ?_;rw[r];have:(id==j)=false:=by simpa using Ne.symm hj
      simp[exitTo,this]
   ·exact f.elim
  ·exact f.elim
 | .block id (.skip)=>by
  intro fin ro PB e L tmps k σ hp h Q m s w g B f q;exact Jw z.1 rfl f q fun k' f r=>Qu V z E _ _ _ _ _ _ _ _ _ _ _ _ (by simp) s w g (fun d h=>B d (by simpa[dsts] using h)) f r
 | .block id (.region _ _ _)=>by
  intro fin ro PB e L tmps k σ hp h Q m s w g B f q;exact Jw z.1 rfl f q fun k' f r=>Qu V z E _ _ _ _ _ _ _ _ _ _ _ _ (by simp) s w g (fun d h=>B d (by simpa[dsts] using h)) f r
 | .block id (.seq _ _)=>by
  intro fin ro PB e L tmps k σ hp h Q m s w g B f q;exact Jw z.1 rfl f q fun k' f r=>Qu V z E _ _ _ _ _ _ _ _ _ _ _ _ (by simp) s w g (fun d h=>B d (by simpa[dsts] using h)) f r
 | .block id (.cond _ _ _)=>by
  intro fin ro PB e L tmps k σ hp h Q m s w g B f q;exact Jw z.1 rfl f q fun k' f r=>Qu V z E _ _ _ _ _ _ _ _ _ _ _ _ (by simp) s w g (fun d h=>B d (by simpa[dsts] using h)) f r
 | .block id (.block _ _)=>by
  intro fin ro PB e L tmps k σ hp h Q m s w g B f q;exact Jw z.1 rfl f q fun k' f r=>Qu V z E _ _ _ _ _ _ _ _ _ _ _ _ (by simp) s w g (fun d h=>B d (by simpa[dsts] using h)) f r
 | .block id (.exit _)=>by
  intro fin ro PB e L tmps k σ hp h Q m s w g B f q;exact Jw z.1 rfl f q fun k' f r=>Qu V z E _ _ _ _ _ _ _ _ _ _ _ _ (by simp) s w g (fun d h=>B d (by simpa[dsts] using h)) f r
 | .block id (.ret)=>by
  intro fin ro PB e L tmps k σ hp h Q m s w g B f q;exact Jw z.1 rfl f q fun k' f r=>Qu V z E _ _ _ _ _ _ _ _ _ _ _ _ (by simp) s w g (fun d h=>B d (by simpa[dsts] using h)) f r
 | .block id (.scope _)=>by
  intro fin ro PB e L tmps k σ hp h Q m s w g B f q;exact Jw z.1 rfl f q fun k' f r=>Qu V z E _ _ _ _ _ _ _ _ _ _ _ _ (by simp) s w g (fun d h=>B d (by simpa[dsts] using h)) f r
 | .block id (.label _)=>by
  intro fin ro PB e L tmps k σ hp h Q m s w g B f q;exact Jw z.1 rfl f q fun k' f r=>Qu V z E _ _ _ _ _ _ _ _ _ _ _ _ (by simp) s w g (fun d h=>B d (by simpa[dsts] using h)) f r
 | .block id (.goto _)=>by
  intro fin ro PB e L tmps k σ hp h Q m s w g B f q;exact Jw z.1 rfl f q fun k' f r=>Qu V z E _ _ _ _ _ _ _ _ _ _ _ _ (by simp) s w g (fun d h=>B d (by simpa[dsts] using h)) f r
 | .block id (.refuse _)=>by
  intro fin ro PB e L tmps k σ hp h Q m s w g B f q;exact Jw z.1 rfl f q fun k' f r=>Qu V z E _ _ _ _ _ _ _ _ _ _ _ _ (by simp) s w g (fun d h=>B d (by simpa[dsts] using h)) f r
 | .block _ (.rangeFunc _ _ _ _)=>by
  intro fin ro PB e L tmps k σ hp h Q m s w g B f q;simp only[tree]at f;exact f.elim
 | .exit id=>by
  intro fin ro PB e L tmps k σ hp h Q m s w g B f q;exact q (.exit id) e tmps σ hp h s w Fr.refl (by simpa[tree] using f) k rfl
 | .ret=>by
  intro fin ro PB e L tmps k σ hp h Q m s w g B f q;exact q .ret e tmps σ hp h s w Fr.refl (by simpa[tree] using f) k
 | .loop _=>by intro fin ro PB e L tmps k σ hp h Q m s w g B f q;exact f.elim
 | .rangeFunc _ _ _ _=>by intro fin ro PB e L tmps k σ hp h Q m s w g B f q;exact f.elim
 | .scope c=>by
  intro fin ro PB e L tmps k σ hp h Q m s w g B f q;rw[tree]at f;refine mv_scope z.1 (Qu V z E c _ _ _ _ _ _ _ _ _ _ _ (by simp) s w g (fun d h=>B d (by simpa[dsts] using h)) f ?_);intro x e' O y u h' Y A U H;have F:Fr (dsts (.scope c)) PB σ tmps hp y O u:=U.mono (fun _ h=>by simpa[dsts] using h) (fun _ h=>h);cases x with
  | fall=>exact mv_inScope z.1 (q .fall e' O y u h' Y A F H)
  | ret=>exact q .ret e' O y u h' Y A F H
  | exit j =>
   intro k' r;exact q (.exit j) e' O y u h' Y A F H k' (by rw[r];simp[exitTo])
 | .label _=>by
  intro fin ro PB e L tmps k σ hp h Q m s w g B f q;exact mv_label z.1 (q .fall e tmps σ hp h s w Fr.refl (by simpa[tree] using f))
 | .goto _=>by intro fin ro PB e L tmps k σ hp h Q m s w g B f q;exact f.elim
 | .refuse _=>by intro fin ro PB e L tmps k σ hp h Q m s w g B f q;exact f.elim
end
end
section
section
variable {P:Program} {main:Bool} {R:Goroutine->LH->Prop} {cs:List Frame}
def markOf(r:Nat):Deferred:={ target:=.collected r,args:=#[] }
def loopObj(st:LoopState)(pd:Option Code)(fn:FuncId)(tmps:Array Value)(ps:Array Tmp)(asq bd:Code)(r:Nat):Obj:=.loop { state:=st,pending:=pd,fn,tmps,params:=ps,assign:=asq,body:=bd,defers:=r }
variable {ds:List Deferred}{k todo:List Item}{f:FuncId}{asq bd:Code}{l r:Nat}{T0:Array Value}
theorem mv_enterLoop(B:LClosed P main R){fn:FI}{tmps:Array Value}{h:LH}{f:Operand}{ps:Array Tmp}{fv:Value}
 (C:∀ (fr:Frame),fr.tmps=tmps->fr.eval f=fv)
 (D:∀ r l,h.get r=none->h.get l=none->r≠l ->
      Qe P (do let d <- Deferred.ofValue fv #[.func (.yield l) #[] #[]];invoke d.target d.args)
        (fun nx h'=>Nx P R (mkF fn (markOf r::ds) none tmps (.inRangeFunc l::k)) cs { h with get:=h' } nx) (fun _ _=>False) ((h.get.upd r (true,.deferred (some []))).upd l (true,loopObj .ready none fn.fn tmps ps asq bd r))) :
    R (G (mkF fn ds none tmps (.code (.rangeFunc f ps asq bd)::k)) cs) h:=by
  refine B.step _ cs h R ?_ (fun _ _ h=>h);intro w hw;let r:=w.heap.size;let l:=w.heap.size+1;let w1:World:={ w with heap:=(w.heap.push (.deferred (some []))).push (loopObj .ready none fn.fn tmps ps asq bd r) }
  have t1:=tr_new hw (o:=.deferred (some [])) rfl;have t:({ w with heap:=w.heap.push (.deferred (some [])) }:World).heap.size=l:=by simp[l]
  have t2:=tr_new t1.fits (o:=loopObj .ready none fn.fn tmps ps asq bd r) rfl;rw[t]at t2;have v:h.get r=none:=hw.fresh (Nat.le_refl _);have u:h.get l=none:=hw.fresh (Nat.le_succ _);have y:=t1.trans t2;have m:(Instr.enterLoop fn.fn tmps ps asq bd none).runT P w #[]=(.ok (l,[markOf r]) w1,#[]):=by
    show Sem.runT P (.new (.deferred (some [])) fun r=>.new (loopObj .ready none fn.fn tmps ps asq bd r) fun l=>.pure (l,[markOf r])) w #[]=_;simp only[Sem.runT,Array.size_push];rfl
  have hS:=D r l v u (Nat.ne_of_lt (Nat.lt_succ_self _));obtain⟨w',h',b,x,p,E⟩:=Zo P _ _ _ _ w1 #[] t2.fits hS;rcases E with⟨nx,a,n⟩|⟨e,_,A⟩
  · rw[Array.empty_append]at a
    have j:resolve (mkF fn (markOf r::ds) none tmps (.inRangeFunc l::k)).eval { callee:=.value f,args:=#[.const (.func (.yield l) #[] #[])],argTypes:=#[] } 0=Deferred.ofValue fv #[.func (.yield l) #[] #[]]:=by
      unfold resolve;simp only[C (mkF fn (markOf r::ds) none tmps (.inRangeFunc l::k)) rfl,List.map_toArray,List.map_cons,List.map_nil];rfl
    have s:(fn.kd==CallKind.early)=false:=by simpa using fn.ok
    have c:((do let d <- Deferred.ofValue fv #[.func (.yield l) #[] #[]];invoke d.target d.args:Sem Next)).run P w1=.ok nx w':=by rw[<- Sem.runT_fst _ _ _ #[],a]
    have g:((do let d <- Deferred.ofValue fv #[.func (.yield l) #[] #[]];invoke d.target d.args:Sem Next)).events P w1 #[]=b:=by show (Sem.runT P _ w1 #[]).2=b;rw[a]
    have q:∀ e∈seen P fn.fn b,EvOk h.get w.heap.size w'.heap.size e:=fun e he=>EvOk.back y x.size (p e (Z7 he));have i:stepG P main (G (mkF fn ds none tmps (.code (.rangeFunc f ps asq bd)::k)) cs) w=GStep.after (seen P fn.fn #[]) (stepG.apply P true (mkF fn (markOf r::ds) none tmps (.inRangeFunc l::k)) cs none (do let d <- Deferred.ofValue fv #[.func (.yield l) #[] #[]];invoke d.target d.args) w1):=by
      rw[<- j];simp only[G,mkF,stepG,stepG.exec,m];rfl
    have z:seen P fn.fn #[]=#[]:=rfl;cases nx<;>simp only[Nx]at n<;>first
      | exact n.elim
      | (refine⟨_,w',seen P fn.fn b,h',?_,y.trans x,q,n⟩
         rw[i,z];simp[stepG.apply,c,g,mkF,s,GStep.after,G])
  · exact A.elim
theorem K6{α:Type}{h:Cells}{m:Bool}{r:Loop}{kk:Loop->Sem α}{Q:α->Cells->Prop}{E:Halt->Cells->Prop}(a:h l=some (m,.loop r))(b:Qe P (kk r) Q E h):Qe P (Instr.getLoop l >>= kk) Q E h:=by
 show Qe P ((Instr.getLoop l).bind kk) Q E h;refine Qz _ _ ?_;exact⟨m,_,a,trivial,b⟩
theorem mv_beginRound(n:LClosed P main R){fn:FI}{tmps:Array Value}{h:LH}{pd:Option Code}{ps:Array Tmp}
 (j:h.get l=some (true,loopObj .ready pd f T0 ps asq bd r))(o:R (G (mkF fn ds (some l) tmps k) cs) { h with get:=h.get.upd l (true,loopObj .busy pd f T0 ps asq bd r) }) :
  R (G (mkF fn ds (some l) tmps (.beginRound::k)) cs) h:=by
 refine n.step _ cs h R ?_ (fun _ _ h=>h);intro w hw;have hS:Qe P (do Instr.beginRound l;pure .skip:Sem Next) (fun nx h'=>nx=.skip/\h'=h.get.upd l (true,loopObj .busy pd f T0 ps asq bd r)) (fun _ _=>False) h.get:=by
  show Qe P ((Instr.beginRound l).bind fun _=>(pure Next.skip:Sem Next)) _ _ _;refine Qz _ _ ?_;unfold Instr.beginRound;refine K6 j ?_;exact⟨⟨_,j,trivial⟩,rfl,rfl⟩
 obtain⟨w',h',b,q,g,p⟩:=Zo P _ _ _ _ w #[] hw hS;rcases p with⟨nx,a,rfl,rfl⟩|⟨e,_,m⟩
 ·rw[Array.empty_append]at a;have c:(do Instr.beginRound l;pure .skip:Sem Next).run P w=.ok .skip w':=by rw[<- Sem.runT_fst _ _ _ #[],a]
  have d:(do Instr.beginRound l;pure .skip:Sem Next).events P w #[]=b:=by show (Sem.runT P _ w #[]).2=b;rw[a]
  have i:(fn.kd==CallKind.early)=false:=by simpa using fn.ok
  refine⟨_,w',seen P fn.fn b,_,?_,q,fun e he=>g e (Z7 he),o⟩;show stepG.apply P true (mkF fn ds (some l) tmps (.beginRound::k)) cs none (do Instr.beginRound l;pure .skip) w=_;simp only[stepG.apply,Sem.runT_eq,c,d,mkF,i,GStep.after,Frame.finish];rfl
 ·exact m.elim
inductive RoundEnd:List Item->Option Code->Prop
 | fall:RoundEnd [] none
 | ret (k:List Item):RoundEnd (.code .ret::k) (some .ret)
 | exit (id:Nat) (k:List Item):exitTo id k=none->RoundEnd (.code (.exit id)::k) (some (.exit id))
theorem mv_endRound(n:LClosed P main R){fn:FI}(d:fn.kd=.normal){tmps:Array Value}{a:Option Code}(q:RoundEnd todo a){c:Frame}{h:LH}{st:LoopState}{pd:Option Code}{ps:Array Tmp}
 (j:h.get l=some (true,loopObj st pd f T0 ps asq bd r))(o:R (G (c.finish (.bool a.isNone)) cs) { h with get:=h.get.upd l (true,loopObj (if a.isNone then .ready else .done) a f T0 ps asq bd r) }) :
  R (G (mkF fn ds (some l) tmps todo) (c::cs)) h:=by
 refine n.step _ (c::cs) h R ?_ (fun _ _ h=>h);intro w hw;have hS:Qe P (Instr.endRound l a) (fun v h'=>v=.bool a.isNone/\h'=h.get.upd l (true,loopObj (if a.isNone then .ready else .done) a f T0 ps asq bd r)) (fun _ _=>False) h.get:=by
  unfold Instr.endRound;refine K6 j ?_;exact⟨⟨_,j,trivial⟩,rfl,rfl⟩
 obtain⟨w',h',g,s,i,p⟩:=Zo P _ _ _ _ w #[] hw hS;rcases p with⟨v,b,rfl,rfl⟩|⟨e,_,m⟩
 ·rw[Array.empty_append]at b;refine⟨_,w',seen P fn.fn g,_,?_,s,fun e he=>i e (Z7 he),o⟩;cases q with
  | fall=>simp only[G,mkF,stepG,stepG.exec,b,GStep.after,doReturn,d,Array.append_empty]
  | ret k=>simp only[G,mkF,stepG,stepG.exec,b,GStep.after,doReturn,d,Array.append_empty]
  | exit id k he=>simp only[G,mkF,stepG,stepG.exec,he,Option.elim_none,b,GStep.after,doReturn,d,Array.append_empty]
 ·exact m.elim
theorem Hd(j:LClosed P main R){fn:FI}{tmps:Array Value}{h:LH}{st:LoopState}{pd:Option Code}{ps:Array Tmp}
 (d:(st==.busy)=false)(g:h.get l=some (true,loopObj st pd f T0 ps asq bd r))(m:R (G (mkF fn ds none tmps ((pd.map Item.code).toList++k)) cs) { h with get:=h.get.upd l (true,loopObj .exhausted pd f T0 ps asq bd r) }) :
  R (G (mkF fn ds none tmps (.endRangeFunc l::k)) cs) h:=by
 refine j.step _ cs h R ?_ (fun _ _ h=>h);intro w hw;have hS:Qe P (Instr.endLoop l) (fun v h'=>v=pd/\h'=h.get.upd l (true,loopObj .exhausted pd f T0 ps asq bd r)) (fun _ _=>False) h.get:=by
  unfold Instr.endLoop;refine K6 g ?_;simp only[loopObj,d,Bool.false_eq_true,if_false];exact⟨⟨_,g,trivial⟩,rfl,rfl⟩
 obtain⟨w',h',b,o,c,n⟩:=Zo P _ _ _ _ w #[] hw hS;rcases n with⟨v,a,rfl,rfl⟩|⟨e,_,i⟩
 ·rw[Array.empty_append]at a;refine⟨_,w',seen P fn.fn b,_,?_,o,fun e he=>c e (Z7 he),m⟩;simp only[G,mkF,stepG,stepG.exec,a,GStep.after,Array.append_empty]
 ·exact i.elim
theorem mv_takeDeferred(g:LClosed P main R){fn:FI}{rd:Option Nat}{tmps:Array Value}{h:LH}(d:h.get r=some (true,.deferred (some [])))
 (i:R (G { mkF fn ds rd tmps todo with mode:=.returning } cs) { h with get:=h.get.upd r (true,.deferred none) }):R (G { mkF fn (markOf r::ds) rd tmps todo with mode:=.returning } cs) h:=by
 refine g.step _ cs h R ?_ (fun _ _ h=>h);intro w hw;have hS:Qe P (Instr.takeDeferred r) (fun v h'=>v=[]/\h'=h.get.upd r (true,.deferred none)) (fun _ _=>False) h.get:=by
  unfold Instr.takeDeferred;show Qe P ((getObj r).bind _) _ _ _;refine Qz _ _ ?_;exact⟨true,_,d,trivial,⟨_,d,trivial⟩,rfl,rfl⟩
 obtain⟨w',h',b,k,c,j⟩:=Zo P _ _ _ _ w #[] hw hS;rcases j with⟨v,a,rfl,rfl⟩|⟨e,_,f⟩
 ·rw[Array.empty_append]at a;refine⟨_,w',seen P fn.fn b,_,?_,k,fun e he=>c e (Z7 he),i⟩;simp only[G,mkF,stepG,unwind,markOf,a,GStep.after,List.nil_append,Array.append_empty]
 ·exact f.elim
end
end
section
section
variable {X:XP} {P:Program} {h:LH}
theorem CV.mono{v:Value}{args:Array Value}{A B:Value->LH->Prop}(c:CV X P v args h A)(a:∀ v h,A v h->B v h):CV X P v args h B :=
 fun main R b fr cs g e=>c main R b fr cs g fun v h' k d f=>e v h' k d (a v h' f)
theorem Dm(t:T):∀ {Q o:Leaf->LH->Prop} {h:LH},t.wp X P Q h->(∀ l h,Q l h->o l h)->t.wp X P o h:=by
 have C:∀ {l:Leaf} {h:LH} {ka kb J E F H:List Value->LH->Prop} {I G:Nat->List Value->LH->Prop},l.go h ka kb J I->(∀ v h,ka v h->E v h)->(∀ v h,kb v h->F v h)->(∀ v h,J v h->H v h)->(∀ j v h,I j v h->G j v h)->l.go h E F H G:=by
  intro l h ka kb J E F H I G z h1 h2 h3 N;cases l with
  | ret v=>exact z
  | again vs=>exact h1 _ _ z
  | brk vs=>exact h2 _ _ z
  | retn vs=>exact h3 _ _ z
  | out j vs=>exact N _ _ _ z
 induction t with
 | fail=>intro Q o h hw;exact hw.elim
 | leaf l=>intro Q o h hw g;exact g _ _ hw
 | need p k i=>intro Q o h hw g;exact⟨hw.1,i hw.2 g⟩
 | someA p k i=>intro Q o h hw g;obtain⟨a,e,hw⟩:=hw;exact⟨a,e,i a hw g⟩
 | loadI ik a k i=>intro Q o h hw g;obtain⟨n,e,hw⟩:=hw;exact⟨n,e,i n hw g⟩
 | loadB a k i=>intro Q o h hw g;obtain⟨n,e,hw⟩:=hw;exact⟨n,e,i n hw g⟩
 | loadS a k i=>intro Q o h hw g;obtain⟨p,n,c,e,hw⟩:=hw;exact⟨p,n,c,e,i p n c hw g⟩
 | loadP a k i=>intro Q o h hw g;obtain⟨n,e,hw⟩:=hw;exact⟨n,e,i n hw g⟩
 | loadM a k i=>intro Q o h hw g;obtain⟨n,e,hw⟩:=hw;exact⟨n,e,i n hw g⟩
 | loadC a k i=>intro Q o h hw g;obtain⟨n,e,hw⟩:=hw;exact⟨n,e,i n hw g⟩
 | loadStr a k i=>intro Q o h hw g;obtain⟨n,e,hw⟩:=hw;exact⟨n,e,i n hw g⟩
 | loadV a k i=>intro Q o h hw g;obtain⟨n,e,hw⟩:=hw;exact⟨n,e,i n hw g⟩
 | store a v k i=>intro Q o h hw g;obtain⟨h1,h2,h3,N,hw⟩:=hw;exact⟨h1,h2,h3,N,i hw g⟩
 | new e cs k i=>intro Q o h hw g r hr;exact i r (hw r hr) g
 | call q f args k i=>intro Q o h hw g;exact FW.mono hw fun v h' m=>⟨m.1,i v m.2 g⟩
 | callv q f args k i=>intro Q o h hw g;exact CV.mono hw fun v h' m=>⟨m.1,i v m.2 g⟩
 | sem q s k i=>intro Q o h hw g;exact Q7 _ hw (fun v h' m=>⟨m.1,i v m.2 g⟩) fun _ _ h=>h
 | loop init body kb J I y A w u =>
  intro Q o h hw g Y U;refine hw Y fun vs h' hb=>U vs h' ?_;exact y vs hb fun l K z=>C z (fun _ _ h=>h) (fun v h m=>A v m g) (fun v h m=>w v m g) (fun j v h m=>u j v m g)
 | blk body kf J I y B w u =>
  intro Q o h hw g;exact y hw fun l K z=>C z (fun v h m=>B v m g) (fun _ _ h=>h) (fun v h m=>w v m g) (fun j v h m=>u j v m g)
 | spawn v args k i =>
  intro Q o h hw g main R O fr cs hat D x kk d W;exact hw main R O fr cs hat D x kk d fun h' M m=>W h' M (i m g)
 | comm last cases shape k i =>
  intro Q o h hw g main R O fr cs hat D Z x kk d W;exact hw main R O fr cs hat D Z x kk d fun v h' M m=>W v h' M (i v m g)
 | both a b a0 y=>intro Q o h hw g;exact⟨a0 hw.1 g,y hw.2 g⟩
 | mem p k i=>intro Q o h hw g;exact⟨hw.1,i hw.2 g⟩
 | each f init body kf kb J I y B A w u =>
  intro Q o h hw g;obtain⟨S,nx,fin,L,h₀,hm,k₀,heq,V,hle,hH,U⟩:=hw;refine⟨S,nx,fin,L,h₀,hm,k₀,heq,V,hle,hH,fun Y h1=>U Y fun s vs h' Z hf hb=>h1 s vs h' Z (fun e=>B vs (hf e) g) fun xs s' hn=>?_⟩;exact y xs vs (hb xs s' hn) fun l K z=>⟨z.1,C z.2 (fun _ _ h=>h) (fun v h m=>A v m g) (fun v h m=>w v m g) (fun j v h m=>u j v m g)⟩
end
section
variable {X:XP} {C:Ctx} {main:Bool} {R:Goroutine->LH->Prop} {cs:List Frame} {fn:FI} {Q:Leaf->LH->Prop}
def oneC(l:Nat)(o:Obj):Cells:=fun x=>if x=l then some (true,o) else none
variable {σ:Nat->Nat}{ro:List Nat}{PB:Nat->Prop}{e:Env}{t:Array Value}{hp h:Cells}{i l:Nat}{o o':Obj}
theorem Sim.tmps{d:Array Value}(s:Sim σ ro PB e t hp)(h:∀ i a,i<4096->e.get i=some a->d[i]?=t[i]?):Sim σ ro PB e d hp where
 slot i a c b hb:=by rw[h i a c b];exact s.slot i a c b hb
 cell:=s.cell
 only:=s.only
 inj:=s.inj
 prot:=s.prot
 cover:=s.cover
theorem Sim.le{a:Cells}(s:Sim σ ro PB e t hp)(h:∀ r x,hp r=some x->a r=some x):Sim σ ro PB e t a where
 slot:=s.slot
 cell i v d b:=by obtain⟨c,el,h1,h2⟩:=s.cell i v d b;exact⟨c,el,h _ _ h1,h2⟩
 only:=s.only
 inj:=s.inj
 prot:=s.prot
 cover:=s.cover
theorem bindPs_wp{P:Program}{h:LH}:∀ {ps:List Nat} {vs:List Value} {e:Env} {a:Env->T},(bindPs ps vs e a).wp X P Q h->vs.length=ps.length/\(a (bindEnv (ps.map fun p=>(p,Kind.any)) vs e)).wp X P Q h:=by
 intro ps
 induction ps with
 | nil=>intro vs e a hw;obtain⟨rfl,hw⟩:=Gs hw;exact⟨rfl,hw⟩
 | cons p ps b =>
  intro vs e a hw;cases vs with
  | nil=>exact hw.elim
  | cons v vs =>
   obtain⟨h1,h2⟩:=b (e:=(p,.val v)::e) hw;exact⟨by simp[h1],h2⟩
theorem Sim.params:∀ (ps:List Nat) (vs:List Value) (e:Env) (t:Array Value),Sim σ ro PB e t hp->(∀ p∈ps,p<t.size/\p<4096) ->
  Sim σ ro PB (bindEnv (ps.map fun p=>(p,Kind.any)) vs e) ((ps.zip vs).foldl (fun t (x:Nat×Value)=>t.setIfInBounds x.1 x.2) t) hp:=by
 intro ps
 induction ps with
 | nil=>intro vs e t s _;cases vs<;>exact s
 | cons p ps f =>
  intro vs e t s a;cases vs with
  | nil=>exact s
  | cons v vs =>
   have:=s.put (some p) (fun d b=>by cases b;exact a p (by simp)) (.val v) v (fun _=>rfl);refine f vs _ _ this fun q c=>?_;have:=a q (by simp[c]);simpa[putD] using this
theorem foldl_size(ps:List (Nat×Value))(t:Array Value):(ps.foldl (fun t (x:Nat×Value)=>t.setIfInBounds x.1 x.2) t).size=t.size:=by
 induction ps generalizing t with
 | nil=>rfl
 | cons p ps a=>rw[List.foldl_cons,a];simp
theorem foldl_other(ps:List (Nat×Value))(t:Array Value)(h:∀ p∈ps,p.1≠i):(ps.foldl (fun t (x:Nat×Value)=>t.setIfInBounds x.1 x.2) t)[i]?=t[i]?:=by
 induction ps generalizing t with
 | nil=>rfl
 | cons p ps b =>
  rw[List.foldl_cons,b _ fun q a=>h q (by simp[a])];rw[Array.getElem?_setIfInBounds_ne (h p (by simp))]
def ZG(X:XP)(P:Program)(Q:Leaf->LH->Prop){S:Type}(nx:S->List Value->S->Prop)(fin:S->Prop)(h₀:LH)(body:List Value->List Value->T)(kf kb kr:List Value->T)(ko:Nat->List Value->T)(s:S)(vs:List Value)(h:LH):Prop :=
 ∀ Y:S->List Value->LH->Prop,(∀ s vs h',LH.le h₀ h'->(fin s->(kf vs).wp X P Q h') ->
  (∀ xs s',nx s xs s'->(body xs vs).wp X P (fun l h''=>LH.le h₀ h''/\l.go h'' (fun vs' h''=>Y s' vs' h'') (fun vs h'=>(kb vs).wp X P Q h') (fun vs h'=>(kr vs).wp X P Q h') (fun j vs h'=>(ko j vs).wp X P Q h')) h')->Y s vs h')->Y s vs h
theorem ZG.out{P:Program}{S:Type}{nx:S->List Value->S->Prop}{fin:S->Prop}{h₀:LH}{body:List Value->List Value->T}{kf kb d:List Value->T}{c:Nat->List Value->T}{s:S}{vs:List Value}{h:LH}(z:ZG X P Q nx fin h₀ body kf kb d c s vs h) :
  LH.le h₀ h/\(fin s->(kf vs).wp X P Q h)/\∀ xs e,nx s xs e->(body xs vs).wp X P (fun l a=>LH.le h₀ a/\l.go a (ZG X P Q nx fin h₀ body kf kb d c e) (fun vs h'=>(kb vs).wp X P Q h') (fun vs h'=>(d vs).wp X P Q h') (fun j vs h'=>(c j vs).wp X P Q h')) h:=by
 have f:∀ {A B:List Value->LH->Prop} {l:Leaf} {h:LH} {kb d:List Value->LH->Prop} {c:Nat->List Value->LH->Prop},(∀ v h,A v h->B v h)->l.go h A kb d c->l.go h B kb d c:=by
  intro A B l h kb d c g b;cases l with
  | again vs=>exact g _ _ b
  | ret v=>exact b
  | brk vs=>exact b
  | retn vs=>exact b
  | out j vs=>exact b
 refine z (fun s vs h=>LH.le h₀ h/\(fin s->(kf vs).wp X P Q h)/\∀ xs e,nx s xs e->(body xs vs).wp X P (fun l a=>LH.le h₀ a/\l.go a (ZG X P Q nx fin h₀ body kf kb d c e) (fun vs h'=>(kb vs).wp X P Q h') (fun vs h'=>(d vs).wp X P Q h') (fun j vs h'=>(c j vs).wp X P Q h')) h) ?_;intro s vs h' u t hb;refine⟨u,t,fun xs e w=>?_⟩;refine Dm _ (hb xs e w) fun l a b=>⟨b.1,f ?_ b.2⟩;rintro m h3 ⟨p,q,r⟩ Y o;refine o e m h3 p q fun n k i=>Dm _ (r n k i) fun l y b=>⟨b.1,f (fun v h5 x=>x Y o) b.2⟩
theorem Z0(l:Nat)(o:Obj):oneC l o l=some (true,o):=by simp[oneC]
theorem Zn(d:Disj h (oneC l o)):Disj h (oneC l o'):=by
 intro r;rcases d r with h'|h'
 ·exact .inl h'
 ·right;unfold oneC at h' ⊢;split at h'
  ·cases h'
  ·rename_i e;rw[if_neg e]
theorem Jx(d:Disj h (oneC l o)):h l=none:=by
 rcases d l with h'|h'
 ·exact h'
 ·rw[Z0]at h';cases h'
theorem J5(a:h l=none):Disj h (oneC l o):=by
 intro r;by_cases e:r=l
 ·subst e;exact .inl a
 ·right;simp[oneC,e]
theorem Jm(a:h l=none):(h.add (oneC l o)) l=some (true,o):=by rw[Qk a,Z0]
theorem Zk(a:h l=none):(h.add (oneC l o)).upd l (true,o')=h.add (oneC l o'):=by
 funext r;unfold Cells.upd Cells.add oneC;by_cases e:r=l
 ·subst e;simp[a]
 ·simp[e]
def BehindS(X:XP)(P:Program)(R:Goroutine->LH->Prop)(fn:FI)(cs:List Frame)(k:List Item)(D:List Nat)(PB:Nat->Prop)(ds:List Deferred)(σ:Nat->Nat)(tmps:Array Value)(hp:Cells)(kT:LExit->Env->T)(Q:Leaf->LH->Prop):Prop :=
 ∀ x e' tmps' σ' hp' h' (PB':Nat->Prop) (mk:List Nat),Sim σ' [] PB' e' tmps' hp'->Disj h'.get hp'->Fr D PB σ tmps hp σ' tmps' hp'->(∀ b,PB b->PB' b)->(∀ b,PB' b->∃ x,hp' b=some x)->(∀ r∈mk,PB' r/\hp' r=some (true,.deferred (some [])))->mk.Nodup->(∀ r∈mk,¬ PB r) ->
  (kT x e').wp X P Q h'->XR R fn (mk.map markOf++ds) none tmps' cs (h'.add hp') k x
theorem bindEnv_slots_priv{L:List (Nat×Kind)}(hp:allPriv L=true){vs:List Value}(b:i<4096):(bindEnv L vs e).get i=e.get i:=by
 induction L generalizing vs e with
 | nil=>cases vs<;>rfl
 | cons x L c =>
  obtain⟨s,kd⟩:=x;rw[allPriv]at hp;simp only[Bool.and_eq_true]at hp;cases vs with
  | nil=>rfl
  | cons v vs =>
   rw[bindEnv,c hp.2,Q0,if_neg];intro a;have:=Kt.1 hp.1;rw[a]at this;exact absurd b (Nat.not_lt.2 this)
structure Inn(σ₀:Nat->Nat)(ro:List Nat)(PB1 PBb:Nat->Prop)(L:List (Nat×Kind))(e₁:Env)(W:List Nat)(T0:Array Value)(hp1:Cells)(vs:List Value)(hq:Cells)(σ':Nat->Nat):Prop where
 simA:Sim σ' [] PB1 (bindEnv L vs e₁) T0 hq
 simB:Sim σ' ro PBb (bindEnv L vs e₁) T0 hq
 fr:Fr W PBb σ₀ T0 hp1 σ' T0 hq
theorem Inn.le{a:Nat->Nat}{ro:List Nat}{g d:Nat->Prop}{L:List (Nat×Kind)}{c:Env}{W:List Nat}{T0:Array Value}{f:Cells}{vs:List Value}{l:Cells}{j:Nat->Nat}(i:Inn a ro g d L c W T0 f vs l j)(e:∀ b,d b->∃ x,f b=some x)(k:Cells) :
  Inn a ro g d L c W T0 f vs (l.add k) j where
 simA:=i.simA.le fun _ _ h=>Qi h
 simB:=i.simB.le fun _ _ h=>Qi h
 fr:=⟨i.fr.size,i.fr.slots,i.fr.names,fun b hb=>by
  obtain⟨x,m⟩:=e b hb;rw[Qi (by rw[i.fr.prot b hb];exact m),m]⟩
end
end
section
section
variable {X:XP} {C:Ctx} {main:Bool} {R:Goroutine->LH->Prop} {cs:List Frame} {fn:FI} {Q:Leaf->LH->Prop}
def endSt:LExit->LoopState | .fall=>.ready|_=>.done
def endJump:LExit->Option Code | .fall=>none | .ret=>some .ret | .exit j=>some (.exit j)
def endGo:LExit->Bool | .fall=>true|_=>false
theorem Hm(a b c:Cells):(a.add b).add c=a.add (b.add c):=by
 funext r;unfold Cells.add;cases a r<;>rfl
def Core(hb:LH)(hq:Cells)(l:Nat)(o:Obj)(h':LH):Prop:=h'={ hb with get:=(hb.get.add hq).add (oneC l o) }/\Disj hb.get hq/\Disj (hb.get.add hq) (oneC l o)
theorem Core.up{hb:LH}{b:Cells}{l:Nat}{o:Obj}{h':LH}(c:Core hb b l o h'){k:Cells}(d:Disj h'.get k):Core hb (b.add k) l o (h'.add k):=by
 obtain⟨rfl,d1,d2⟩:=c;have f:Disj (hb.get.add b) k:=d.of_add_left;have a:Disj (oneC l o) k:=Qx d2 d;have e:Disj hb.get k:=f.of_add_left;refine⟨?_,?_,?_⟩
 ·unfold LH.add;simp only;rw[Q4 a,Hm hb.get b k]
 ·exact(Disj.add d1.symm e.symm).symm
 ·rw[<- Hm];exact Disj.add d2 a.symm
theorem round_sound(hX:XOK X){J:Bool}{q:Goroutine->LH->Prop}(u:Closed X C.P J q){fr₂:Frame}{cs₂:List Frame}(I:X.stk C.P .normal (fr₂::cs₂)){n:LoopNote}{id:Nat}{ps:Array Tmp}{asq bd:Code}{w:Env}{T0:Array Value}
 {σ L:Nat->Nat}{Q c:Nat->Prop}{z K:Cells}{hb:LH}{vs xs:List Value}{l r:Nat}{pd:Option Code}{h₀:LH}{Qb:Leaf->LH->Prop}{A:Value->LH->Prop}
 (H:∀ b,c b->∃ x,z b=some x)(hd:∀ d∈wrOf ps asq bd,d<T0.size/\d<4096)
 (i0:Inn σ (appL n.ro []) Q c n.slots w (wrOf ps asq bd) T0 z vs K L)(dj:Disj hb.get K)(dl:Disj (hb.get.add K) (oneC l (loopObj .ready pd fn.fn T0 ps asq bd r)))
 (hlen:xs.length=ps.toList.length)
 (hw:(tree C false (appL n.ro []) asq (bindEnv (ps.toList.map fun p=>(p,Kind.any)) xs (bindEnv n.slots vs w)) fun x g0=>match x with
     | .fall=>tree C false (appL n.ro []) bd g0 fun x Z=>leafT (some id) Z n.slots x
     | _=>.fail).wp X C.P Qb hb)
 (z0:∀ Z t' g E B,Sim g (appL n.ro []) c Z t' E->Fr (wrOf ps asq bd) c σ T0 z g t' E->collect Z n.slots=some B->Inn σ (appL n.ro []) Q c n.slots w (wrOf ps asq bd) T0 z B E g)
 (hk:∀ v h',A v h'->q (G (fr₂.finish v) cs₂) h')
 (hA:∀ (x:LExit) (B:List Value) (y:LH) (E:Cells) (g:Nat->Nat) (h':LH),LeafIs (some id) x B Qb y->Inn σ (appL n.ro []) Q c n.slots w (wrOf ps asq bd) T0 z B E g ->
   Core y E l (loopObj (endSt x) (endJump x) fn.fn T0 ps asq bd r) h'->A (.bool (endGo x)) h') :
  q (G (Frame.round l fn.fn ((ps.toList.zip xs).foldl (fun t (x:Nat×Value)=>t.setIfInBounds x.1 x.2) T0) asq bd .normal) (fr₂::cs₂)) { hb with get:=(hb.get.add K).add (oneC l (loopObj .ready pd fn.fn T0 ps asq bd r)) }:=by
 have n0:∀ p∈ps.toList,p∈wrOf ps asq bd:=fun p hp=>by unfold wrOf;rw[Qw];exact List.mem_append.2 (.inl hp)
 have has:∀ p∈dsts asq,p∈wrOf ps asq bd:=fun p hp=>by unfold wrOf;rw[Qw,Qw];exact List.mem_append.2 (.inr (List.mem_append.2 (.inl hp)))
 have k0:∀ p∈dsts bd,p∈wrOf ps asq bd:=fun p hp=>by unfold wrOf;rw[Qw,Qw];exact List.mem_append.2 (.inr (List.mem_append.2 (.inr hp)))
 let D:FI:=⟨fn.fn,.normal,by simp⟩
 let T1:=(ps.toList.zip xs).foldl (fun t (x:Nat×Value)=>t.setIfInBounds x.1 x.2) T0;have s1:Sim L (appL n.ro []) c (bindEnv (ps.toList.map fun p=>(p,Kind.any)) xs (bindEnv n.slots vs w)) T1 K:=Sim.params _ _ _ _ i0.simB fun p hp=>hd p (n0 p hp);have j0:T1.size=T0.size:=foldl_size _ _;have f1:Fr (wrOf ps asq bd) c σ T0 z L T1 K:=by
  refine⟨j0,fun i hi=>?_,i0.fr.names,i0.fr.prot⟩;exact foldl_other _ _ fun p hp e=>hi (e▸n0 p.1 (List.of_mem_zip hp).1)
 have W:∀ b,c b->∃ x,K b=some x:=fun b y=>by rw[i0.fr.prot b y];exact H b y
 -- l1 parameters j1 taken
 have key:=Qu (fn:=D) (ds:=[]) (rd:=some l) (cs:=fr₂::cs₂) hX (u.frame hX (oneC l (loopObj .ready pd fn.fn T0 ps asq bd r))) (Hn hX I) asq false (appL n.ro []) c _ _ T1 [.beginRound,.code bd] L K hb Qb (by intro hf;cases hf) s1 dj W
  (fun d U=>by rw[j0];exact hd d (has d U)) hw ?_
 ·have e1:hb.add K={ hb with get:=hb.get.add K }:=rfl;have:=key dl;exact this
 ·intro x g0 q0 g o s g1 a0 w0 F;cases x with
  | ret=>exact F.elim
  | exit j=>exact F.elim
  | fall =>
   intro M;have m0:(s.get.add o) l=none:=Jx M;refine mv_beginRound (P:=C.P) (pd:=pd) (f:=fn.fn) (T0:=T0) (ps:=ps) (asq:=asq) (bd:=bd) (r:=r) u.1 (Jm m0) ?_;have e2:((s.add o).add (oneC l (loopObj .ready pd fn.fn T0 ps asq bd r))).get.upd l (true,loopObj .busy pd fn.fn T0 ps asq bd r)=(s.get.add o).add (oneC l (loopObj .busy pd fn.fn T0 ps asq bd r)):=Zk m0;have f2:Fr (wrOf ps asq bd) c σ T0 z g q0 o:=f1.trans w0 (fun _ h=>h) has;have p0:=Qu (fn:=D) (ds:=[]) (rd:=some l) (cs:=fr₂::cs₂) hX (u.frame hX (oneC l (loopObj .busy pd fn.fn T0 ps asq bd r))) (Hn hX I) bd false (appL n.ro []) c _ _ q0 [] g o s Qb (by intro hf;cases hf) g1 a0 (fun b y=>by rw[f2.prot b y];exact H b y)
    (fun d U=>by rw[f2.size];exact hd d (k0 d U)) F ?_
   ·have:=p0 (Zn M);show q _ { s.add o with get:=((s.add o).add (oneC l (loopObj .ready pd fn.fn T0 ps asq bd r))).get.upd l (true,loopObj .busy pd fn.fn T0 ps asq bd r) };rw[e2];exact this
   ·intro x Z t3 Y k m s3 s0 f3 x0;obtain⟨B,l0,V⟩:=Hw x0;have f4:Fr (wrOf ps asq bd) c σ T0 z Y t3 k:=f2.trans f3 (fun _ h=>h) k0;have a1:=z0 Z t3 Y k B s3 f4 l0;have fin:∀ (todo:List Item) (a:Option Code),RoundEnd todo a->a=(endJump x)->Disj (m.add k).get (oneC l (loopObj .busy pd fn.fn T0 ps asq bd r)) ->
      q (G (mkF D [] (some l) t3 todo) (fr₂::cs₂)) ((m.add k).add (oneC l (loopObj .busy pd fn.fn T0 ps asq bd r))):=by
     intro todo a o0 hj e0;have N:(m.get.add k) l=none:=Jx e0;refine mv_endRound (P:=C.P) u.1 rfl o0 (Jm N) ?_;have u0:((m.add k).add (oneC l (loopObj .busy pd fn.fn T0 ps asq bd r))).get.upd l (true,loopObj (if a.isNone then .ready else .done) a fn.fn T0 ps asq bd r)=(m.get.add k).add (oneC l (loopObj (if a.isNone then .ready else .done) a fn.fn T0 ps asq bd r)):=Zk N;have S:Core m k l (loopObj (endSt x) (endJump x) fn.fn T0 ps asq bd r) { m with get:=(m.get.add k).add (oneC l (loopObj (if a.isNone then .ready else .done) a fn.fn T0 ps asq bd r)) }:=by
      refine⟨?_,s0,Zn e0⟩;subst hj;cases x<;>rfl
     have O:=hk _ _ (hA x B m k Y _ V a1 S);have R:(Value.bool (endGo x))=.bool a.isNone:=by subst hj;cases x<;>rfl
     rw[R]at O;show q _ { m.add k with get:=((m.add k).add (oneC l (loopObj .busy pd fn.fn T0 ps asq bd r))).get.upd l (true,loopObj (if a.isNone then .ready else .done) a fn.fn T0 ps asq bd r) };rw[u0];exact O
    cases x with
    | fall=>exact fin [] none .fall rfl
    | ret=>exact fun k'=>fin _ _ (.ret k') rfl
    | exit j=>exact fun k' y0=>fin _ _ (.exit j k' (by rw[y0];rfl)) rfl
end
end
section
section
variable {X:XP} {C:Ctx} {main:Bool} {R:Goroutine->LH->Prop} {cs:List Frame} {fn:FI} {Q:Leaf->LH->Prop}
theorem rf_sound(hX:XOK X)(hR:Closed X C.P main R)(x3:∀ ds,X.hat C.P fn ds none cs){ds:List Deferred}{k:List Item}{id:Nat}{f:Operand}{ps:Array Tmp}{asq bd:Code}{PB:Nat->Prop}{e:Env}{T0:Array Value}{σ:Nat->Nat}{hp:Cells}{h:LH}{kT:LExit->Env->T}
 (s:Sim σ [] PB e T0 hp)(dj:Disj h.get hp)(x0:∀ b,PB b->∃ x,hp b=some x)(hd:∀ d∈wrOf ps asq bd,d<T0.size/\d<4096)(hT:(rfT C id f ps asq bd e kT).wp X C.P Q h)
 (hk:BehindS X C.P R fn cs k (wrOf ps asq bd) PB ds σ T0 hp kT Q):R (G (mkF fn ds none T0 (.code (.block id (.rangeFunc f ps asq bd))::k)) cs) (h.add hp):=by
 unfold rfT at hT;split at hT
 ·rename_i n hn;split at hT
  ·rename_i q0;simp only[Bool.and_eq_true]at q0;obtain⟨p1,g1⟩:=q0;obtain⟨fv,l3,hT⟩:=Qq hT;obtain⟨init,m1,hT⟩:=Hq hT;obtain⟨S,nx,fin,b3,h₀,hm,k₀,heq,m2,hle,hH,hY⟩:=hT;refine Gy hR.1 (mv_enterLoop (fv:=fv) hR.1 ?_ ?_)
   ·intro fr k3;have:=s.eval (fn:=fn) (ds:=ds) (rd:=none) (k:=[]) l3 (by simp);simp only[conc]at this;rw[<- this];cases f<;>simp[Frame.eval,mkF,k3]
   ·intro r l hr hl q1;have l1:h.get r=none:=by
     cases L:h.get r with
     | none=>rfl
     | some x=>rw[show (h.add hp).get r=some x from Qi L]at hr;cases hr
    have o3:hp r=none:=by rw[show (h.add hp).get r=hp r from Qk l1]at hr;exact hr
    have o0:h.get l=none:=by
     cases L:h.get l with
     | none=>rfl
     | some x=>rw[show (h.add hp).get l=some x from Qi L]at hl;cases hl
    have o1:hp l=none:=by rw[show (h.add hp).get l=hp l from Qk o0]at hl;exact hl
    let g:Cells:=hp.upd r (true,.deferred (some []));let K:Nat->Prop:=fun b=>PB b\/b=r;let m:=stays (wrOf ps asq bd) (appL n.ro []) e;let O:Nat->Prop:=prot' K σ n.ro e;have u1:∀ b x,hp b=some x->b≠r:=by rintro b x L rfl;rw[o3]at L;cases L
    have l0:∀ b x,hp b=some x->g b=some x:=fun b x L=>by show hp.upd r _ b=_;rw[Qp _ _ (u1 b x L)];exact L
    have w0:g r=some (true,.deferred (some [])):=Qn _ _ _;have s1:Sim σ [] K e T0 g:=by
     have s0:=s.le l0;refine⟨s0.slot,s0.cell,s0.only,s0.inj,?_,fun _ _ _ _ h=>by cases h⟩;rintro t a ht hg u3 (h1|h1)
     ·exact s.prot t a ht hg u3 h1
     ·obtain⟨v,rfl⟩:=s.only t a ht hg;obtain⟨c,el,h2,_⟩:=s.cell t v ht hg;exact u1 _ _ h2 h1
    have W:∀ b,K b->∃ x,g b=some x:=by
     rintro b (hb|rfl)
     ·obtain⟨x,L⟩:=x0 b hb;exact⟨x,l0 b x L⟩
     ·exact⟨_,w0⟩
    have Y:∀ b,O b->∃ x,g b=some x:=s1.guarded_live n.ro W;have y2:∀ e3 t' I M N,Sim I (appL n.ro []) O e3 t' M->Fr (wrOf ps asq bd) O σ T0 g I t' M->collect e3 n.slots=some N->Inn σ (appL n.ro []) K O n.slots m (wrOf ps asq bd) T0 g N M I:=by
     intro e3 t' I M N s' f' hc;obtain⟨sA,sB⟩:=s1.rebind s' f' hc g1;have same:∀ i a,i<4096->(bindEnv n.slots N m).get i=some a->T0[i]?=t'[i]?:=by
      intro i a hi hg;rw[bindEnv_slots_priv p1 hi]at hg;obtain⟨_,_,_,_,hW⟩:=Ww hg;exact(f'.slots i (hW hi)).symm
     exact⟨sA.tmps same,sB.tmps same,⟨rfl,fun _ _=>rfl,f'.names,f'.prot⟩⟩
    have z2:Inn σ (appL n.ro []) K O n.slots m (wrOf ps asq bd) T0 g init g σ:=y2 e T0 σ g init (s1.guarded n.ro) Fr.refl m1;let F:=fun st pd=>loopObj st pd fn.fn T0 ps asq bd r;let body:=fun xs vs=>Zl n.ps xs fun xs=>bindS n.slots vs m fun e'=>bindPs ps.toList xs e' fun e'=>tree C false (appL n.ro []) asq e' fun x j3=>match x with
     | .fall=>tree C false (appL n.ro []) bd j3 fun x e3=>leafT (some id) e3 n.slots x
     | _=>.fail
    let kf:=fun vs=>bindS n.slots vs m (kT .fall);let kr:=fun vs=>bindS n.slots vs m (kT .ret);let ko:=outT (fun j vs=>bindS n.slots vs m (kT (.exit j))) n.outs;let Z:=ZG X C.P Q nx fin h₀ body kf kf kr ko;have hZ:Z b3 init hm:=hY;let J:S->LH->Prop:=fun i h'=>∃ vs hb u p,Core hb u l (F .ready none) h'/\Inn σ (appL n.ro []) K O n.slots m (wrOf ps asq bd) T0 g vs u p/\Z i vs hb;let E:LH->Prop:=fun h'=>∃ (x:LExit) (vs:List Value) (hb:LH) (u:Cells) (p:Nat->Nat),x≠.fall/\Core hb u l (F .done (endJump x)) h'/\Inn σ (appL n.ro []) K O n.slots m (wrOf ps asq bd) T0 g vs u p /\
     LeafIs (some id) x vs (fun l h'=>l.go h' (fun _ _=>False) (fun vs h'=>(kf vs).wp X C.P Q h') (fun vs h'=>(kr vs).wp X C.P Q h') (fun j vs h'=>(ko j vs).wp X C.P Q h')) hb
    have j1:((h.add hp).get.upd r (true,.deferred (some []))).upd l (true,loopObj .ready none fn.fn T0 ps asq bd r)=(h.get.add g).add (oneC l (F .ready none)):=by
     funext b;unfold Cells.upd Cells.add oneC;show _=_;by_cases e1:b=l
     ·subst e1;simp[o0,g,Cells.upd,Ne.symm q1,o1,F]
     ·by_cases e2:b=r
      ·subst e2;simp[e1,l1,g,Cells.upd]
      ·simp only[e1,e2,if_false,LH.add,Cells.add,g,Cells.upd];cases h.get b with
       | some x=>rfl
       | none=>cases hp b<;>rfl
    have g3:Disj h.get g:=by
     intro b;by_cases e2:b=r
     ·subst e2;exact .inl l1
     ·rcases dj b with h1|h1
      ·exact .inl h1
      ·right;show hp.upd r _ b=none;rw[Qp _ _ e2];exact h1
    have h4:(h.get.add g) l=none:=by
     rw[Qk o0];show hp.upd r _ l=none;rw[Qp _ _ (Ne.symm q1)];exact o1
    rw[j1];have j2:∀ i h' k',J i h'->Disj h'.get k'->J i (h'.add k'):=by
     rintro i h' k' ⟨vs,hb,u,p,c,D,z⟩ d;exact⟨vs,hb,u.add k',p,c.up d,D.le Y k',z⟩
    have g2:∀ h' k',E h'->Disj h'.get k'->E (h'.add k'):=by
     rintro h' k' ⟨x,vs,hb,u,p,L,c,D,z⟩ d;exact⟨x,vs,hb,u.add k',p,L,c.up d,D.le Y k',z⟩
    have H:∀ {hb:LH} {u:Cells} {o:Obj} {h':LH},LH.le h₀ hb->Core hb u l o h'->LH.le h₀ h':=by
     rintro hb u o h' q2 ⟨rfl,_,_⟩;exact⟨fun b x L=>Qi (Qi (q2.1 b x L)),q2.2⟩
    have z0:∀ i h' xs i',LH.le h₀ h'->nx i xs i'->J i h'->CV X C.P (.func (.yield l) #[] #[]) xs.toArray h' fun b w=>LH.le h₀ w/\((b=.bool true/\J i' w)\/(b=.bool false/\E w)):=by
     rintro i h' xs i' b4 hi ⟨vs,hb,u,p,⟨rfl,d1,d2⟩,D,z⟩ a3 y1 y0 fr₂ cs₂ x1 n1;obtain⟨e4,_,hw⟩:=z.out;have hw:=hw xs i' hi;have z3:=Jd (D5 hw);obtain⟨hlen,a4⟩:=bindPs_wp z3;have n3:((hb.get.add u).add (oneC l (F .ready none))) l=some (true,F .ready none):=Jm (Jx d2);show Qe C.P (Instr.yield l (#[]++xs.toArray)) _ _ _;unfold Instr.yield;refine K6 n3 ?_;have y3:¬ ((#[]++xs.toArray).size≠ps.size):=by simp[hlen]
     simp only[y3,if_false];show y1 (G (Frame.round l fn.fn _ asq bd .normal) (fr₂::cs₂)) _;have k2:(ps.zip (#[]++xs.toArray)).foldl (fun tmps (x:Nat×Value)=>tmps.setIfInBounds x.1 x.2) T0=(ps.toList.zip xs).foldl (fun t (x:Nat×Value)=>t.setIfInBounds x.1 x.2) T0:=by
      rw[<- Array.foldl_toList];simp
     have:=round_sound (pd:=none) (h₀:=h₀) (A:=fun b w=>LH.le h₀ w/\((b=.bool true/\J i' w)\/(b=.bool false/\E w))) hX y0 (fr₂:=fr₂) (cs₂:=cs₂) x1 Y hd D d1 d2 hlen a4 y2 (fun v w hA=>by
      have h1:=n1 v w (fun _=>none) (fun _=>.inr rfl) hA;have e0:w.add (fun _=>none)=w:=by
       unfold LH.add;have:w.get.add (fun _=>none)=w.get:=by funext b;unfold Cells.add;cases w.get b<;>rfl
       rw[this]
      rw[e0]at h1;exact h1) (by
      intro x N j0 M I w B g0 q;cases x with
      | fall =>
       obtain⟨U,hz⟩:=B;exact⟨H U q,.inl ⟨rfl,N,j0,M,I,q,g0,hz⟩⟩
      | ret =>
       obtain⟨U,hz⟩:=B;exact⟨H U q,.inr ⟨rfl,.ret,N,j0,M,I,by simp,q,g0,hz⟩⟩
      | exit j =>
       unfold LeafIs at B;simp only at B;split at B
       ·rename_i ej;obtain⟨U,hz⟩:=B;refine⟨H U q,.inr ⟨rfl,.exit j,N,j0,M,I,by simp,q,g0,?_⟩⟩;unfold LeafIs;simp only[if_pos ej];exact hz
       ·rename_i ej;obtain⟨U,hz⟩:=B;refine⟨H U q,.inr ⟨rfl,.exit j,N,j0,M,I,by simp,q,g0,?_⟩⟩;unfold LeafIs;simp only[if_neg ej];exact hz)
     first|exact k2▸this|(rw[<- k2]at this;exact this)|exact this
    -- behind j4 loop
    have after:∀ (x:LExit) (vs:List Value) (hb:LH) (u:Cells) (p:Nat->Nat) (o:Obj),Disj hb.get u->Disj (hb.get.add u) (oneC l o)->Inn σ (appL n.ro []) K O n.slots m (wrOf ps asq bd) T0 g vs u p->(kT x (bindEnv n.slots vs m)).wp X C.P Q hb ->
      XR R fn (markOf r::ds) none T0 cs { hb with get:=(hb.get.add u).add (oneC l o) } k x:=by
     intro x vs hb u p o d1 d2 D hw;have l2:Disj hb.get (u.add (oneC l o)):=by
      intro b;rcases d2 b with h1|h1
      ·cases L:hb.get b with
       | none=>exact .inl rfl
       | some y=>rw[Qi L]at h1;cases h1
      ·rcases d1 b with h2|h2
       ·exact .inl h2
       ·right;rw[Qk h2];exact h1
     have s3:∀ b,K b->u b=g b:=fun b hb1=>D.fr.prot b (.inl hb1);have V:∀ b,K b->(u.add (oneC l o)) b=g b:=fun b hb1=>by
      obtain⟨y,hy⟩:=W b hb1;rw[Qi (by rw[s3 b hb1];exact hy),hy]
     have:=hk x (bindEnv n.slots vs m) T0 p (u.add (oneC l o)) hb K [r] (D.simA.le fun _ _ L=>Qi L) l2
      ⟨rfl,fun _ _=>rfl,D.fr.names,fun b hb1=>by
       obtain⟨y,hy⟩:=x0 b hb1;rw[V b (.inl hb1),l0 b y hy,hy]⟩
      (fun b hb1=>.inl hb1)
      (fun b hb1=>by rw[V b hb1];exact W b hb1)
      (fun r' m0=>by
       simp at m0;subst m0;exact⟨.inr rfl,by rw[V r' (.inr rfl)];exact w0⟩) (by simp) (fun r' m0 hP=>by
       simp at m0;subst m0;obtain⟨y,hy⟩:=x0 _ hP;exact u1 _ _ hy rfl) hw
     have e0:hb.add (u.add (oneC l o))={ hb with get:=(hb.get.add u).add (oneC l o) }:=by unfold LH.add;rw[Hm]
     rw[e0]at this;exact this
    have o2:∀ v h' k',Disj h'.get k'->(LH.le h₀ h'/\((∃ s,fin s/\J s h')\/E h'))->R (G ((mkF fn (markOf r::ds) none T0 (.inRangeFunc l::.inBlock id::k)).finish v) cs) (h'.add k'):=by
     intro v h' k' d q3;refine hR.1.up _ _ k' ?_ d;show R (G (mkF fn (markOf r::ds) none T0 (.endRangeFunc l::.inBlock id::k)) cs) h';obtain⟨_,hJ|hE⟩:=q3
     ·obtain⟨s1,v3,vs,hb,u,p,⟨rfl,d1,d2⟩,D,z⟩:=hJ;have k0:=Jx d2;refine Hd (P:=C.P) hR.1 (by rfl) (Jm k0) ?_;show R (G (mkF fn (markOf r::ds) none T0 (.inBlock id::k)) cs) { hb with get:=((hb.get.add u).add (oneC l (F .ready none))).upd l (true,loopObj .exhausted none fn.fn T0 ps asq bd r) };rw[Zk k0];exact Hc hR.1 (after .fall vs hb u p _ d1 (Zn d2) D (Jd (z.out.2.1 v3)))
     ·obtain⟨x,vs,hb,u,p,L,⟨rfl,d1,d2⟩,D,z⟩:=hE;have k0:=Jx d2;refine Hd (P:=C.P) hR.1 (by rfl) (Jm k0) ?_;show R (G (mkF fn (markOf r::ds) none T0 (((endJump x).map Item.code).toList++.inBlock id::k)) cs) { hb with get:=((hb.get.add u).add (oneC l (F .done (endJump x)))).upd l (true,loopObj .exhausted (endJump x) fn.fn T0 ps asq bd r) };rw[Zk k0];cases x with
      | fall=>exact absurd rfl L
      | ret=>exact after .ret vs hb u p _ d1 (Zn d2) D (Jd z) (.inBlock id::k)
      | exit j =>
       unfold LeafIs at z;simp only at z;split at z
       ·rename_i ej;cases ej;have:=after .fall vs hb u p (loopObj .exhausted (some (.exit id)) fn.fn T0 ps asq bd r) d1 (Zn d2) D (Jd z);exact Df hR.1 (by simp[exitTo]) this
       ·rename_i ej;have hw:=Jd (Dd z);refine after (.exit j) vs hb u p _ d1 (Zn d2) D hw (.inBlock id::k) ?_;have:(id==j)=false:=by
         cases j0:(id==j) with
         | false=>rfl
         | true=>exact absurd (by rw[eq_of_beq j0]) ej
        simp[exitTo,this]
    have p0:Disj (hm.get.add k₀) g:=by have:=g3;rw[heq]at this;exact this
    have a0:(hm.get.add k₀) l=none:=by have:=o0;rw[heq]at this;exact this
    have b2:Disj hm.get g:=p0.of_add_left;have z1:Disj k₀ g:=Qx m2 p0;have u0:hm.get l=none:=by
     cases L:hm.get l with
     | none=>rfl
     | some y=>rw[Qi L]at a0;cases a0
    have m3:k₀ l=none:=by rw[Qk u0]at a0;exact a0
    have x2:(hm.get.add g) l=none:=by
     rw[Qk u0];show hp.upd r _ l=none;rw[Qp _ _ (Ne.symm q1)];exact o1
    have a2:Disj k₀ (oneC l (F .ready none)):=J5 m3;have n2:Disj ((hm.get.add g).add (oneC l (F .ready none))) k₀:=Disj.add (Disj.add m2 z1.symm) a2.symm;have n0:(h.get.add g).add (oneC l (F .ready none))=((hm.get.add g).add (oneC l (F .ready none))).add k₀:=by
     rw[heq];show ((hm.get.add k₀).add g).add _=_;rw[Q4 z1,Q4 a2]
    have a1:=hH (.func (.yield l) #[] #[]) J E j2 g2 z0 { hm with get:=(hm.get.add g).add (oneC l (F .ready none)) } (H hle ⟨rfl,b2,J5 x2⟩)
     ⟨init,hm,g,σ,⟨rfl,b2,J5 x2⟩,z2,hZ⟩ n2 main R hR (mkF fn (markOf r::ds) none T0 (.inRangeFunc l::.inBlock id::k)) cs ((x3 (markOf r::ds)).up hX trivial) o2
    have u2:({ hm with get:=(hm.get.add g).add (oneC l (F .ready none)) }:LH).add k₀={ h with get:=(h.get.add g).add (oneC l (F .ready none)) }:=by
     rw[n0];clear a1;subst heq;rfl
    rw[u2]at a1;exact a1
  ·exact hT.elim
 ·exact hT.elim
end
end
section
section
variable {X:XP} {C:Ctx} {main:Bool} {R:Goroutine->LH->Prop} {cs:List Frame} {fn:FI}
theorem BehindS.toX{k:List Item}{PB:Nat->Prop}{ds:List Deferred}{D:List Nat}{σ:Nat->Nat}{tmps:Array Value}{hp:Cells}{i:LExit->Env->T}{Q:Leaf->LH->Prop}(d:∀ b,PB b->∃ x,hp b=some x)
 (l:BehindS X C.P R fn cs k D PB ds σ tmps hp i Q):BehindX X C.P R fn ds none cs k D [] PB σ tmps hp i Q:=by
 intro x j a g f h' m c h e;exact l x j a g f h' PB [] m c h (fun b hb=>hb) (fun b hb=>by rw[h.prot b hb];exact d b hb) (fun r hr=>by cases hr) List.nodup_nil (fun r hr=>by cases hr) e
theorem BehindS.step{k:List Item}{D i j:List Nat}{PB l:Nat->Prop}{ds:List Deferred}{σ y:Nat->Nat}{tmps c:Array Value}{hp o:Cells}{mk:List Nat}{I:LExit->Env->T}{Q:Leaf->LH->Prop}(M:BehindS X C.P R fn cs k D PB ds σ tmps hp I Q)
 (f:Fr i PB σ tmps hp y c o)(m:∀ d,d∈i->d∈D)(n:∀ d,d∈j->d∈D)(h1:∀ b,PB b->l b)(h3:∀ r∈mk,l r/\o r=some (true,.deferred (some [])))(J:mk.Nodup)(h5:∀ r∈mk,¬ PB r):BehindS X C.P R fn cs k j l (mk.map markOf++ds) y c o I Q:=by
 intro x A g z w B p mk' H q s t E F G u v;have:=M x A g z w B p (mk'++mk) H q (f.trans (s.mono (fun _ h=>h) h1) m n) (fun b hb=>t b (h1 b hb)) E (fun r hr=>by
  rcases List.mem_append.1 hr with hr|hr
  ·exact F r hr
  ·exact⟨t r (h3 r hr).1,by rw[s.prot r (h3 r hr).1];exact(h3 r hr).2⟩)
  (List.nodup_append.2 ⟨G,J,fun a L b hb e=>u a L (e▸(h3 b hb).1)⟩) (fun r hr=>by
   rcases List.mem_append.1 hr with hr|hr
   ·exact fun K=>u r hr (h1 r K)
   ·exact h5 r hr) v
 rw[List.map_append,List.append_assoc]at this;exact this
theorem Sim.rebindS{W:List Nat}{σ l:Nat->Nat}{PB n:Nat->Prop}{e r:Env}{tmps d:Array Value}{hp j:Cells}{L:List (Nat×Kind)}{vs:List Value}(s:Sim σ [] PB e tmps hp)(m:Sim l [] n r d j)(f:Fr W PB σ tmps hp l d j)(hc:collect r L=some vs) :
  Sim l [] n (bindEnv L vs (stays W [] e)) d j:=by
 have g:=@bindEnv_get L vs (stays W [] e) r hc;have b:∀ t a,4096<=t->(bindEnv L vs (stays W [] e)).get t=some a->r.get t=some a:=by
  intro t a c x;rcases g t a x with⟨_,h1,_⟩|h1
  ·exact h1
  ·obtain⟨_,_,_,h3,_⟩:=Ww h1;have:=(h3 c).1;simp at this
 refine⟨?_,fun t v c h=>m.cell t v c (b _ _ c h),fun t a c h=>m.only t a c (b _ _ c h),fun t A a y c q h h'=>m.inj t A a y c q (b _ _ c h) (b _ _ q h'),
  fun t a c h=>m.prot t a c (b _ _ c h),fun t a c h=>m.cover t a c (b _ _ c h)⟩
 intro i a u x hb;rcases g i a x with⟨_,h1,_⟩|h1
 ·exact m.slot i a u h1 hb
 ·obtain⟨p,h2,h3,_,z⟩:=Ww h1;rw[f.slots i (z u)];subst h3;cases p with
  | val v=>exact s.slot i _ u h2 (by simp)
  | pp k o =>
   have w:memN W k=false:=by
    cases w:memN W k with
    | false=>rfl
    | true=>exact absurd (show AV.scrap (memN W) (.pp k o)=.bad by simp[AV.scrap,w]) hb
   rw[s.slot i _ u h2 (by simp)];simp[AV.scrap,w,conc,f.names k (Jq.1 w)]
  | bad=>exact absurd rfl hb
theorem Zi(K:XOK X)(A:Closed X C.P main R)(w:∀ ds,X.hat C.P fn ds none cs):(c:Code)->∀ (fin:Bool) (PB:Nat->Prop) (ds:List Deferred) (e:Env) (M:LExit->Env->T) (tmps:Array Value) (k:List Item) (σ:Nat->Nat) (hp:Cells) (h:LH) (Q:Leaf->LH->Prop),
  (fin=true->k=[]/\ds=[]/\(none:Option Nat)=none/\fn.kd=.deferred/\∃ fd,C.P.funcs[fn.fn]?=some fd/\fd.results=#[])->Sim σ [] PB e tmps hp->Disj h.get hp->(∀ b,PB b->∃ x,hp b=some x)->(∀ d∈dsts c,d<tmps.size/\d<4096)->(spine C fin c e M).wp X C.P Q h ->
  BehindS X C.P R fn cs k (dsts c) PB ds σ tmps hp M Q->R (G (mkF fn ds none tmps (.code c::k)) cs) (h.add hp)
 | .seq a b=>by
  intro fin PB ds e M tmps k σ hp h Q m s B i D q z;have g0:∀ d∈dsts a,d<tmps.size/\d<4096:=fun d h=>D d (by rw[dsts,Qw];simp[h]);have W:∀ d∈dsts b,d<tmps.size/\d<4096:=fun d h=>D d (by rw[dsts,Qw];simp[h]);have Z:∀ d,d∈dsts a->d∈dsts (.seq a b):=fun d h=>by rw[dsts,Qw];simp[h]
  have a0:∀ d,d∈dsts b->d∈dsts (.seq a b):=fun d h=>by rw[dsts,Qw];simp[h]
  unfold spine at q;split at q
  ·exact Qu K A (w _) (.seq a b) _ _ _ _ _ _ _ _ _ _ _ m s B i D q (z.toX i)
  ·refine Gj A.1 ?_;have next:∀ {o:Nat->Nat} {I:Env} {g:Array Value} {l:Cells} {h':LH} {p:Nat->Prop} {mk:List Nat},Sim o [] p I g l->Disj h'.get l->Fr (dsts a) PB σ tmps hp o g l->(∀ b,PB b->p b)->(∀ b,p b->∃ x,l b=some x) ->
     (∀ r∈mk,p r/\l r=some (true,.deferred (some [])))->mk.Nodup->(∀ r∈mk,¬ PB r)->(spine C false b I M).wp X C.P Q h'->R (G (mkF fn (mk.map markOf++ds) none g (.code b::k)) cs) (h'.add l):=by
    intro o I g l h' p mk H u J h1 h2 h3 N h5 y;refine Zi K A w b false p _ I M g k o l h' Q (by intro S;cases S) H u h2 (by rw[J.size];exact W) y ?_;exact z.step J Z a0 h1 h3 N h5
   split at q
   ·rename_i n l1 hn;split at q
    ·rename_i p0;simp only[T.wp]at q;refine Qu K A (w _) a _ _ _ _ _ _ _ _ _ _ _ (by simp) (s.guarded n.ro) B (s.guarded_live n.ro i) g0 q ?_;intro x I t' o l h' H u J y;obtain⟨y,x0⟩:=ppsT_wp y;obtain⟨vs,hc,Y⟩:=Hw y;obtain⟨L,_⟩:=s.rebind H J hc p0;have E:Fr (dsts a) PB σ tmps hp o t' l:=J.mono (fun _ h=>h) (fun _ h=>.inl h);have h2:∀ b,PB b->∃ x,l b=some x:=fun b hb=>by rw[E.prot b hb];exact i b hb
     have F:Fr (dsts (.seq a b)) PB σ tmps hp o t' l:=E.mono Z (fun _ h=>h);cases x with
     | fall=>exact next (mk:=[]) (L.addPP H (x0 rfl)) u E (fun _ h=>h) h2 (fun r hr=>by cases hr) List.nodup_nil (fun r hr=>by cases hr) (Jd Y)
     | ret=>exact z .ret _ t' o l h' PB [] L u F (fun _ h=>h) h2 (fun r hr=>by cases hr) List.nodup_nil (fun r hr=>by cases hr) (Jd Y)
     | exit j =>
      rw[LeafIs,if_neg (by simp)]at Y;exact z (.exit j) _ t' o l h' PB [] L u F (fun _ h=>h) h2 (fun r hr=>by cases hr) List.nodup_nil (fun r hr=>by cases hr) (Jd (Dd Y))
    ·exact q.elim
   refine Zi K A w a false PB ds e _ tmps (.code b::k) σ hp h Q (by intro S;cases S) s B i g0 q ?_;intro x I g o l h' p mk H u J h1 h2 h3 N h5 y;have F:Fr (dsts (.seq a b)) PB σ tmps hp o g l:=J.mono Z (fun _ h=>h);cases x with
   | fall=>exact next H u J h1 h2 h3 N h5 y
   | ret=>exact z .ret I g o l h' p mk H u F h1 h2 h3 N h5 y
   | exit j=>exact z (.exit j) I g o l h' p mk H u F h1 h2 h3 N h5 y
 | .skip=>fun _ _ _ _ _ _ _ _ _ _ _ m s B i D q z=>Qu K A (w _) _ _ _ _ _ _ _ _ _ _ _ _ m s B i D q (z.toX i)
 | .region _ _ _=>fun _ _ _ _ _ _ _ _ _ _ _ m s B i D q z=>Qu K A (w _) _ _ _ _ _ _ _ _ _ _ _ _ m s B i D q (z.toX i)
 | .cond c a b=>by
  intro fin PB ds e M tmps k σ hp h Q m s B i D q z;have g0:∀ d∈dsts a,d<tmps.size/\d<4096:=fun d h=>D d (by rw[dsts,Qw];simp[h]);have W:∀ d∈dsts b,d<tmps.size/\d<4096:=fun d h=>D d (by rw[dsts,Qw];simp[h]);have Z:∀ d,d∈dsts a->d∈dsts (.cond c a b):=fun d h=>by rw[dsts,Qw];simp[h]
  have a0:∀ d,d∈dsts b->d∈dsts (.cond c a b):=fun d h=>by rw[dsts,Qw];simp[h]
  unfold spine at q;split at q
  ·exact Qu K A (w _) _ _ _ _ _ _ _ _ _ _ _ _ m s B i D q (z.toX i)
  ·obtain⟨v,hv,q⟩:=Qq q;cases v<;>simp only[T.unB]at q<;>first|exact q.elim|skip
   rename_i t;refine mv_cond A.1 (t:=t) (s.eval hv (by simp)) ?_;cases t with
   | true=>exact Zi K A w a false PB ds e M tmps k σ hp h Q (by intro S;cases S) s B i g0 q (fun x I g o l h' p mk H u J=>z x I g o l h' p mk H u (J.mono Z (fun _ h=>h)))
   | false=>exact Zi K A w b false PB ds e M tmps k σ hp h Q (by intro S;cases S) s B i W q (fun x I g o l h' p mk H u J=>z x I g o l h' p mk H u (J.mono a0 (fun _ h=>h)))
 | .scope c=>by
  intro fin PB ds e M tmps k σ hp h Q m s B i D q z;unfold spine at q;split at q
  ·exact Qu K A (w _) _ _ _ _ _ _ _ _ _ _ _ _ m s B i D q (z.toX i)
  ·refine mv_scope A.1 ?_;refine Zi K A w c false PB ds e M tmps (.inScope c::k) σ hp h Q (by intro S;cases S) s B i (fun d h=>D d (by simpa[dsts] using h)) q ?_;intro x I g o l h' p mk H u J h1 h2 h3 N h5 y;have:=z x I g o l h' p mk H u (J.mono (fun _ h=>by simpa[dsts] using h) (fun _ h=>h)) h1 h2 h3 N h5 y;cases x with
   | fall=>exact mv_inScope A.1 this
   | ret=>exact this
   | exit j=>intro k' U;exact this k' (by rw[U];simp[exitTo])
 | .block id (.rangeFunc f ps asq bd)=>by
  intro fin PB ds e M tmps k σ hp h Q m s B i D q z;exact rf_sound K A w s B i (fun d a1=>D d (by simpa[dsts,wrOf] using a1)) q (fun x I g o l h' p mk H u J=>z x I g o l h' p mk H u (J.mono (fun _ h=>by simpa[dsts,wrOf] using h) (fun _ h=>h)))
 | .block id (.loop body)=>by
  intro fin PB ds e M tmps k σ hp h Q m s B i D q z;have W:∀ d∈dsts body,d<tmps.size/\d<4096:=fun d h=>D d (by simpa[dsts] using h);have a0:∀ d,d∈dsts body->d∈dsts (.block id (.loop body)):=fun d h=>by simpa[dsts] using h
  unfold spine at q;split at q
  ·exact Qu K A (w _) _ _ _ _ _ _ _ _ _ _ _ _ m s B i D q (z.toX i)
  ·split at q
   ·rename_i n hn;obtain⟨m1,z0,q⟩:=Hq q;refine Gy A.1 (mv_loop A.1 ?_);have hY:=q fun vs h'=>∀ t' o l p V,Sim o [] p (bindEnv n.slots vs (stays (dsts body) [] e)) t' l->Disj h'.get l->Fr (dsts body) PB σ tmps hp o t' l->(∀ b,PB b->p b)->(∀ b,p b->∃ x,l b=some x)->BehindS X C.P R fn cs k (dsts (.block id (.loop body))) p V o t' l M Q ->
     R (G (mkF fn V none t' (.code body::.inLoop body::.inBlock id::k)) cs) (h'.add l)
    refine hY ?_ tmps σ hp PB ds (s.rebindS s Fr.refl z0) B Fr.refl (fun _ h=>h) i z;intro vs h' hw t' o l p V H u J n0 s0 U;have hw:=Jd hw;refine Zi K A w body false p V _ _ t' _ o l h' _ (by intro S;cases S) H u s0 (by rw[J.size];exact W) hw ?_;intro x j1 j0 e0 O o0 k0 mk g1 l0 q0 h1 h2 h3 N h5 u0;obtain⟨y0,hc,Y⟩:=Hw u0;have F:Fr (dsts body) PB σ tmps hp e0 j0 O:=J.trans (q0.mono (fun _ h=>h) n0) (fun _ h=>h) (fun _ h=>h);have L:=s.rebindS g1 F hc;have m0:=U.step q0 a0 (fun _ h=>h) h1 h3 N h5;have fin:∀ x',(M x' (bindEnv n.slots y0 (stays (dsts body) [] e))).wp X C.P Q o0->XR R fn (mk.map markOf++V) none j0 cs (o0.add O) k x':=fun x' e1=>by
     have:=m0 x' _ j0 e0 O o0 k0 [] L l0 Fr.refl (fun _ h=>h) h2 (fun r hr=>by cases hr) List.nodup_nil (fun r hr=>by cases hr) e1;simpa using this
    cases x with
    | fall=>exact mv_inLoop A.1 (Y j0 e0 O k0 _ L l0 F (fun b hb=>h1 b (n0 b hb)) h2 m0)
    | ret=>exact fin .ret (Jd Y)
    | exit j =>
     intro k' w0;by_cases hj:j=id
     ·subst hj;rw[LeafIs,if_pos rfl]at Y;refine Df A.1 (k':=k) ?_ (fin .fall (Jd Y));rw[w0];simp[exitTo]
     ·rw[LeafIs,if_neg (by simpa using hj)]at Y;refine fin (.exit j) (Jd (Dd Y)) k' ?_;rw[w0];have:(id==j)=false:=by simpa using Ne.symm hj
      simp[exitTo,this]
   ·exact q.elim
 | .block id (.seq a b)=>by
  intro fin PB ds e M tmps k σ hp h Q m s B i D q z;unfold spine at q;split at q
  ·exact Qu K A (w _) _ _ _ _ _ _ _ _ _ _ _ _ m s B i D q (z.toX i)
  ·refine Gy A.1 ?_;refine Zi K A w (.seq a b) false PB ds e _ tmps (.inBlock id::k) σ hp h Q (by intro S;cases S) s B i (fun d h=>D d (by simpa[dsts] using h)) q ?_;intro x I g o l h' p mk H u J h1 h2 h3 N h5 y;have E:Fr (dsts (.block id (.seq a b))) PB σ tmps hp o g l:=J.mono (fun _ h=>by simpa[dsts] using h) (fun _ h=>h);cases x with
   | fall=>exact Hc A.1 (z .fall I g o l h' p mk H u E h1 h2 h3 N h5 y)
   | ret=>exact z .ret I g o l h' p mk H u E h1 h2 h3 N h5 y
   | exit j =>
    intro k' U;simp only at y;cases hb:Nat.beq j id with
    | true =>
     rw[hb]at y;refine Df A.1 (k':=k) ?_ (z .fall I g o l h' p mk H u E h1 h2 h3 N h5 y);rw[U,Jc hb];simp[exitTo]
    | false =>
     rw[hb]at y;refine z (.exit j) I g o l h' p mk H u E h1 h2 h3 N h5 y k' ?_;rw[U];have:(id==j)=false:=by simpa using Ne.symm (Zj hb)
     simp[exitTo,this]
 | .block _ (.skip) | .block _ (.region _ _ _) | .block _ (.cond _ _ _) | .block _ (.block _ _) | .block _ (.scope _) | .block _ (.goto _) | .block _ (.label _) | .block _ (.exit _) | .block _ (.ret) | .block _ (.refuse _)=>by
  intro fin PB ds e M tmps k σ hp h Q m s B i D q z;exact Qu K A (w _) _ _ _ _ _ _ _ _ _ _ _ _ m s B i D q (z.toX i)
 | .exit _=>fun _ _ _ _ _ _ _ _ _ _ _ m s B i D q z=>Qu K A (w _) _ _ _ _ _ _ _ _ _ _ _ _ m s B i D q (z.toX i)
 | .ret=>fun _ _ _ _ _ _ _ _ _ _ _ m s B i D q z=>Qu K A (w _) _ _ _ _ _ _ _ _ _ _ _ _ m s B i D q (z.toX i)
 | .loop _ | .rangeFunc _ _ _ _ | .goto _ | .label _ | .refuse _=>by
  intro fin PB ds e M tmps k σ hp h Q m s B i D q z;exact Qu K A (w _) _ _ _ _ _ _ _ _ _ _ _ _ m s B i D q (z.toX i)
end
end
section
section
variable {X:XP} {C:Ctx}
def Gw(tmps:Array Value):ResultVar->Sem Value
 | .tmp t=>pure (tmps.getD t undef)
 | .cell a t=>do loadVar t (<- asAddr (tmps.getD a undef))
variable {e:Env}{main:Bool}{cs:List Frame}
theorem resT_wp{σ:Nat->Nat}{ro:List Nat}{PB:Nat->Prop}{tmps:Array Value}{hp:Cells}{h:LH}{Q:Leaf->LH->Prop}(s:Sim σ ro PB e tmps hp)(p:Disj h.get hp):∀ {rs:List ResultVar} {kk:List Value->T},(resT C e rs kk).wp X C.P Q h ->
  ∃ vs,vs.length=rs.length/\(kk vs).wp X C.P Q h/\∀ (f:List Value->Cells->Prop),f vs (h.get.add hp)->Qe C.P (rs.mapM (Gw tmps)) f (fun _ _=>False) (h.get.add hp):=by
 intro rs
 induction rs with
 | nil=>intro kk hw;exact⟨[],rfl,hw,fun f h=>h⟩
 | cons r rs m =>
  intro kk hw;cases r with
  | tmp t =>
   obtain⟨v,hv,hw⟩:=Qq hw;obtain⟨vs,h0,h1,h2⟩:=m (kk:=fun l=>kk (v::l)) hw;refine⟨v::vs,by simp[h0],h1,fun f g=>?_⟩;have d:=J2 hv;have i:=s.slot t _ d.1 d.2 (by simp);rw[List.mapM_cons,lwp_bind,Gw,Qg,lwp_bind];refine h2 _ ?_;rw[Qg,Array.getD_eq_getD_getElem?,i];exact g
  | cell a t =>
   rw[resT]at hw;split at hw
   ·rename_i b j hb;split at hw
    ·rename_i v hv;obtain⟨vs,h0,h1,h2⟩:=m (kk:=fun l=>kk (v::l)) hw;refine⟨v::vs,by simp[h0],h1,fun f g=>?_⟩;have d:=J2 hb;have i:=s.slot a _ d.1 d.2 (by simp);rw[List.mapM_cons,lwp_bind,Gw,lwp_bind,Array.getD_eq_getD_getElem?,i];simp only[conc,Option.getD_some,asAddr,Qg];refine lwp_privLoad s p hv ?_;rw[lwp_bind];refine h2 _ ?_;rw[Qg];exact g
    ·exact hw.elim
   ·rename_i b hb;have d:=J2 hb;have i:=s.slot a _ d.1 d.2 (by simp);split at hw
    ·rename_i u c k;split at hw
     ·rename_i hlen;obtain⟨l,h1,h2,hw⟩:=loadL_wp hw;obtain⟨vs,h0,h3,n⟩:=m (kk:=fun o=>kk (.agg l.toArray::o)) hw;refine⟨.agg l.toArray::vs,by simp[h0],h3,fun f g=>?_⟩;rw[List.mapM_cons,lwp_bind,Gw,lwp_bind,Array.getD_eq_getD_getElem?,i];simp only[conc,Option.getD_some,asAddr,Qg];refine Wb c (by rw[h1,<- Wh];exact Jc hlen) (fun t v hv=>?_) ?_
      ·have:=h2 t v hv;rw[Nat.zero_add]at this;exact Qo (Zm _ _) this
      ·rw[lwp_bind];refine n _ ?_;rw[Qg];exact g
     ·exact hw.elim
    ·rename_i kd c k;obtain⟨v,h1,hw⟩:=Yo hw;obtain⟨vs,h0,h3,n⟩:=m (kk:=fun o=>kk (v::o)) hw;obtain⟨q,hu⟩:=kindsF_some k;refine⟨v::vs,by simp[h0],h3,fun f g=>?_⟩;rw[List.mapM_cons,lwp_bind,Gw,lwp_bind,Array.getD_eq_getD_getElem?,i];simp only[conc,Option.getD_some,asAddr,Qg];refine Wa hu c (Qo (Zm _ _) h1) ?_;rw[lwp_bind];refine n _ ?_;rw[Qg];exact g
    ·exact hw.elim
   ·exact hw.elim
theorem Jo:∀ {args:List Value} {j i:Nat} {a:AV},(argsEnv j args).get i=some a->∃ v,a=.val v/\j<=i/\i<j+args.length/\args[i-j]?=some v:=by
 intro args
 induction args with
 | nil=>intro j i a h;cases h
 | cons x args d =>
  intro j i a h;rw[argsEnv,Q0]at h;by_cases b:j=i
  ·rw[if_pos b]at h;cases h;subst b;exact⟨x,rfl,Nat.le_refl _,by simp,by simp⟩
  ·rw[if_neg b]at h;obtain⟨v,h1,h2,h3,c⟩:=d h;refine⟨v,h1,by omega,by simp;omega,?_⟩;rw[show i-j=(i-(j+1))+1 by omega];simpa using c
theorem Ky{n:Nat}:∀ {l:List Nat},allBelow n l=true->∀ d∈l,d<n:=by
 intro l
 induction l with
 | nil=>intro _ d h;simp at h
 | cons a l c =>
  intro h d b;rw[allBelow]at h;simp only[Bool.and_eq_true,Bool.not_eq_true']at h;rcases List.mem_cons.1 b with rfl|b
  ·have:=h.1;rcases Nat.lt_or_ge d n with h'|h'
   ·exact h'
   ·rw[Nat.ble_eq_true_of_le h']at this;cases this
  ·exact c h.2 d b
def retQ(Q:Value->LH->Prop)(l:Leaf)(h:LH):Prop:=match l with | .ret v=>Q v h|_=>False
theorem take_marks{R:Goroutine->LH->Prop}(m:LClosed C.P main R){fn:FI}{tmps:Array Value}{todo:List Item}{h:LH}:∀ (mk:List Nat) (hp:Cells),mk.Nodup->Disj h.get hp->(∀ r∈mk,hp r=some (true,.deferred (some []))) ->
  (∀ a,Disj h.get a->(∀ b,b∉mk->a b=hp b)->R (G { mkF fn [] none tmps todo with mode:=.returning } cs) (h.add a))->R (G { mkF fn (mk.map markOf) none tmps todo with mode:=.returning } cs) (h.add hp):=by
 intro mk
 induction mk with
 | nil=>intro hp _ d _ g;exact g hp d fun _ _=>rfl
 | cons r mk o =>
  intro hp n d hm g;have hr:=hm r (by simp);have c:h.get r=none:=by
   rcases d r with h'|h'
   ·exact h'
   ·rw[hr]at h';cases h'
  refine mv_takeDeferred m (r:=r) (by show h.get.add hp r=_;rw[Qk c];exact hr) ?_;have e:(h.get.add hp).upd r (true,.deferred none)=h.get.add (hp.upd r (true,.deferred none)):=by
   funext b;unfold Cells.upd Cells.add;by_cases e:b=r
   ·subst e;simp[c]
   ·simp[e]
  show R _ { h.add hp with get:=(h.get.add hp).upd r (true,.deferred none) };rw[e];have f:=List.nodup_cons.1 n;refine o (hp.upd r (true,.deferred none)) f.2 ?_ (fun q k=>?_) fun a l i=>g a l fun b hb=>?_
  ·intro b;by_cases e:b=r
   ·subst e;exact .inl c
   ·rw[Qp _ _ e];exact d b
  ·have j:q≠r:=by rintro rfl;exact f.1 k
   rw[Qp _ _ j];exact hm q (by simp[k])
  ·rw[i b (fun h=>hb (by simp[h])),Qp _ _ (fun e=>hb (by simp[e]))]
theorem spine_tree{fin:Bool}{c:Code}(h:hasRF c=false){a:LExit->Env->T}:spine C fin c e a=tree C fin [] c e a:=by
 unfold spine;split
 ·rw[h]
 ·cases h
 ·simp only[hasRF]at h;rw[h]
 ·simp only[hasRF]at h ⊢;rw[h]
 ·simp only[hasRF]at h;rw[h]
 ·rw[h]
 ·rfl
theorem spine_or{R:Goroutine->LH->Prop}{fn:FI}(l:XOK X)(o:Closed X C.P main R)(i:X.stk C.P fn.kd cs)(c:Code)(g:X.all\/hasRF c=false)(fin:Bool)(PB:Nat->Prop)(e:Env)(m:LExit->Env->T)(tmps:Array Value)(k:List Item)(σ:Nat->Nat)(hp:Cells)(h:LH)(Q:Leaf->LH->Prop)
 (a:fin=true->k=[]/\([]:List Deferred)=[]/\(none:Option Nat)=none/\fn.kd=.deferred/\∃ fd,C.P.funcs[fn.fn]?=some fd/\fd.results=#[])(s:Sim σ [] PB e tmps hp)(n:Disj h.get hp)(f:∀ b,PB b->∃ x,hp b=some x)(p:∀ d∈dsts c,d<tmps.size/\d<4096)(j:(spine C fin c e m).wp X C.P Q h)
 (q:BehindS X C.P R fn cs k (dsts c) PB [] σ tmps hp m Q):R (G (mkF fn [] none tmps (.code c::k)) cs) (h.add hp):=by
 rcases g with g|g
 ·exact Zi l o (XP.hat_all g i · none) c fin PB [] e m tmps k σ hp h Q a s n f p j q
 ·rw[spine_tree g]at j;exact Qu l o (Hn l i) c fin _ _ _ _ _ _ _ _ _ _ a s n f p j (q.toX f)
theorem fwk_of_tree(hX : XOK X)(hkd : C.kd ≠ .early){f : FuncId}{fd : Func}(ha : X.all \/ ∀ c, fd.body = some c -> hasRF c = false){args : List Value}{h : LH}{Q : Value -> LH -> Prop}(hf : C.P.funcs[f]? = some fd)(hn : (fd.name == "runtime.NumGoroutine") = false)
 (hT:(ftree C fd args).wp X C.P (retQ Q) h):FWK X C.P C.kd f args.toArray h Q:=by
 unfold ftree at hT;split at hT
 ·rename_i c hb hchk;rw[hb]at hchk;simp only[Bool.and_eq_true]at hchk;have hlen:=Nat.le_of_ble_eq_true hchk.1;have hnt:=Nat.le_of_ble_eq_true hchk.2.1;have hds:=Ky hchk.2.2;rw[Wh]at hlen;refine⟨⟨fd,hf,by rw[hb];rfl,hn⟩,?_⟩;intro main R hR cs hst hk;have hen:Frame.enter C.P f args.toArray C.kd=mkF ⟨f,C.kd,hkd⟩ [] none (args.toArray++Array.replicate (fd.ntmps-args.length) undef) [.code c]:=by
   simp[Frame.enter,hf,hb,mkF]
  rw[hen];have hadd:h=h.add (fun _=>none):=by
   have e0:h.get.add (fun _=>none)=h.get:=by funext r;unfold Cells.add;cases h.get r<;>rfl
   unfold LH.add;rw[e0]
  rw[hadd];refine spine_or (fn:=⟨f,C.kd,hkd⟩) hX hR hst c (ha.imp_right fun ha=>ha c hb) _ (fun _=>False) _ _ _ _ id _ _ _ ?_ ?_ (fun _=>.inr rfl) (fun _ h=>h.elim) ?_ hT ?_
  ·intro hfin;unfold finOf at hfin;split at hfin
   ·rename_i h1 h2;exact⟨rfl,rfl,rfl,h1,fd,hf,Array.toList_inj.1 (by rw[h2])⟩
   ·cases hfin
  ·refine⟨?_,?_,?_,?_,?_,?_⟩
   ·intro i a hi hg hb';obtain⟨v,rfl,_,h3,h4⟩:=Jo hg;rw[Array.getElem?_append_left (by simpa using h3)];simpa[conc] using h4
   ·intro s v hs hg;obtain⟨_,_,_,h3,_⟩:=Jo hg;omega
   ·intro s v hs hg;obtain⟨_,_,_,h3,_⟩:=Jo hg;omega
   ·intro s s' a a' hs _ hg;obtain⟨_,_,_,h3,_⟩:=Jo hg;omega
   ·intro s v hs hg;obtain⟨_,_,_,h3,_⟩:=Jo hg;omega
   ·intro s v hs hg;obtain⟨_,_,_,h3,_⟩:=Jo hg;omega
  ·intro d hd;have:=hds d hd;simp;omega
  ·intro x e' t' σ' hp' h' PB' mk s' dj' hN h1 h2 h3 h4 h5 hT';have fin:(resT C e' fd.results.toList fun l=>match l with
     | [v]=>.leaf (.ret v)
     | l=>.leaf (.ret (.tuple l.toArray))).wp X C.P (retQ Q) h'->∀ todo,R (G { mkF ⟨f,C.kd,hkd⟩ (mk.map markOf++[]) none t' todo with mode:=.returning } cs) (h'.add hp'):=by
    intro hw todo;rw[List.append_nil];refine take_marks hR.1 mk hp' h4 dj' (fun r hr=>(h3 r hr).2) fun hp'' dj'' hsame=>?_;have s':Sim σ' [] PB' e' t' hp'':=by
     refine⟨s'.slot,fun t v ht hg=>?_,s'.only,s'.inj,s'.prot,s'.cover⟩;obtain⟨c,el,q1,q2⟩:=s'.cell t v ht hg;refine⟨c,el,?_,q2⟩;rw[hsame]
     ·exact q1
     ·intro hm;rw[(h3 _ hm).2]at q1;cases q1
    obtain⟨vs,h0,h1,h2⟩:=resT_wp s' dj'' hw;have hv:∃ v,Q v h'/\v=(if hh:vs.length=1 then vs[0] else .tuple vs.toArray):=by
     match vs,h1 with
     | [],h1=>exact⟨_,h1,rfl⟩
     | [v],h1=>exact⟨v,h1,rfl⟩
     | a::b::l,h1=>exact⟨_,h1,by simp⟩
    obtain⟨v,hq,hv⟩:=hv;refine hk _ v h' hp'' rfl dj'' ⟨rfl,rfl,rfl,fd,hf,?_⟩ hq;unfold results;rw[lwp_bind,Array.mapM_eq_mapM_toList,<- bind_pure_comp,lwp_bind];refine h2 _ ?_;rw[Qg,Qg];refine⟨?_,rfl⟩;rw[hv];simp
   cases x with
   | fall=>exact mv_end hR.1 (fin hT' _)
   | ret=>exact fun k'=>mv_ret hR.1 (fin hT' _)
   | exit j=>exact hT'.elim
 ·exact hT.elim
end
end
section
theorem H2{X:XP}{P:Program}(p:XOK X){f:FuncId}{first args cap hargs:Array Value}{h:LH}{Q:Value->LH->Prop}(j:(first++args)++cap=hargs)(c:FW X P f hargs h Q):CV X P (.func (.func f) first cap) args h Q:=by
 intro main R g fr cs o m;obtain⟨⟨fn,l,hb,a⟩,b⟩:=c;have e:fn.body.isNone=false:=by cases h:fn.body<;>simp_all
 subst j;show Qe P (callFunc f ((first++args)++cap)) _ _ _;unfold callFunc;show Qe P (program.bind _) _ _ _;refine Qz _ _ ?_;show Qe P (match P.funcs[f]? with|none=>_|some fn=>_) _ _ _;rw[l];simp only[a,e,Bool.false_eq_true,if_false];exact b main R g (fr::cs) o fun i v h' k _ d hr n=>ret_step g.1 hr (m v h' k d n)
end
section
variable {X:XP} {P:Program} {Q:Leaf->LH->Prop} {h:LH}
variable {p:Option Addr}{a:Addr}{n c:Nat}{v:Value}{b:Bool}{f:FuncId}{args:Array Value}{init l:List Value}{fd:Func}{g:Prop}
theorem gT{p:Prop}{k:T}(hp:p)(a:k.wp X P Q h):(T.need p k).wp X P Q h:=⟨hp,a⟩
theorem gS2{k:Addr->T}(hp:p=some a)(b:(k a).wp X P Q h):(T.someA p k).wp X P Q h:=⟨a,hp,b⟩
theorem gL0{b:IntKind}{n:Int}{k:Int->T}(hc:h.get.cell? a=some (.int b n))(c:(k n).wp X P Q h):(T.loadI b a k).wp X P Q h:=⟨n,hc,c⟩
theorem gL2{n:Bool}{k:Bool->T}(hc:h.get.cell? a=some (.bool n))(b:(k n).wp X P Q h):(T.loadB a k).wp X P Q h:=⟨n,hc,b⟩
theorem gL1{k:Option Addr->Nat->Nat->T}(hc:h.get.cell? a=some (.slice p n c))(b:(k p n c).wp X P Q h):(T.loadS a k).wp X P Q h:=⟨p,n,c,hc,b⟩
theorem gL3{n:Option Addr}{k:Option Addr->T}(hc:h.get.cell? a=some (.pointer n))(b:(k n).wp X P Q h):(T.loadP a k).wp X P Q h:=⟨n,hc,b⟩
theorem gL4{n:Option Nat}{k:Option Nat->T}(hc:h.get.cell? a=some (.map n))(b:(k n).wp X P Q h):(T.loadM a k).wp X P Q h:=⟨n,hc,b⟩
theorem Ua{n:Option Nat}{k:Option Nat->T}(hc:h.get.cell? a=some (.chan n))(b:(k n).wp X P Q h):(T.loadC a k).wp X P Q h:=⟨n,hc,b⟩
theorem Qv{n:ByteArray}{k:ByteArray->T}(hc:h.get.cell? a=some (.string n))(b:(k n).wp X P Q h):(T.loadStr a k).wp X P Q h:=⟨n,hc,b⟩
theorem D9{n:Value}{k:Value->T}(hc:h.get.cell? a=some n)(b:(k n).wp X P Q h):(T.loadV a k).wp X P Q h:=⟨n,hc,b⟩
theorem t_store{v₀:Value}{k:T}(h1:isOne v=true)(h2:h.get.own a.block)(h3:h.get.cell? a=some v₀)(b:h.get.frozen? a=false)(c:k.wp X P Q { h with get:=h.get.setCell a v }):(T.store a v k).wp X P Q h:=⟨h1,h2,⟨v₀,h3⟩,b,c⟩
theorem Kg{e:TypeId}{cs:Array Value}{k:Nat->T}(a:∀ r,h.get r=none->(k r).wp X P Q { h with get:=h.get.upd r (true,.cells cs e) }):(T.new e cs k).wp X P Q h:=a
theorem Qt{s t:T}(h1:b=true->s.wp X P Q h)(h2:b=false->t.wp X P Q h):(bif b then s else t).wp X P Q h:=by
 cases b
 ·exact h2 rfl
 ·exact h1 rfl
theorem t_if{p:Prop}[Decidable p]{s t:T}(h1:p->s.wp X P Q h)(h2:¬ p->t.wp X P Q h):(bif decide p then s else t).wp X P Q h :=
 Qt (fun e=>h1 (of_decide_eq_true e)) (fun e=>h2 (of_decide_eq_false e))
theorem Zr{s t:T}(h1:s.wp X P Q h)(h2:t.wp X P Q h):(T.both s t).wp X P Q h:=⟨h1,h2⟩
theorem Jp{k:Value->T}{A:Value->LH->Prop}(c:FW X P f args h A)(b:∀ v h',A v h'->(k v).wp X P Q h'):(T.call false f args k).wp X P Q h :=
 FW.mono c fun v h' a=>⟨fun e=>(by cases e),b v h' a⟩
theorem J9{f:Value}{k:Value->T}{A:Value->LH->Prop}(c:CV X P f args h A)(b:∀ v h',A v h'->(k v).wp X P Q h'):(T.callv false f args k).wp X P Q h :=
 CV.mono c fun v h' a=>⟨fun e=>(by cases e),b v h' a⟩
theorem Jh{s:Sem Value}{k:Value->T}{A:Value->Cells->Prop}(c:Qe P s A (fun _ _=>False) h.get)(b:∀ v h',A v h'->(k v).wp X P Q { h with get:=h' }):(T.sem false s k).wp X P Q h :=
 Q7 _ c (fun v h' a=>⟨fun e=>(by cases e),b v h' a⟩) fun _ _ h=>h
theorem Je{body:List Value->T}{kb d:List Value->T}{c:Nat->List Value->T}(I:Nat->List Value->LH->Prop)(h0:I n init h)
 (hb:∀ (Y:List Value->LH->Prop) n vs h,(∀ m a h',m<n->I m a h'->Y a h')->I n vs h->(body vs).wp X P (fun l h'=>l.go h' Y (fun vs h'=>(kb vs).wp X P Q h') (fun vs h'=>(d vs).wp X P Q h') (fun j vs h'=>(c j vs).wp X P Q h')) h):(T.loop init body kb d c).wp X P Q h:=by
 intro Y f;have key:∀ n vs h,I n vs h->Y vs h:=by
  intro n
  induction n using Nat.strongRecOn with
  | ind n g=>intro vs h e;exact f vs h (hb Y n vs h (fun m a h' hm b=>g m hm a h' b) e)
 exact key n init h h0
theorem Jl{body:List Value->T}{kb d:List Value->T}{c:Nat->List Value->T}(I:Nat->List Value->LH->Prop)(B:List Value->LH->Prop)(h0:I n init h)
 (hb:∀ (Y:List Value->LH->Prop) n vs h,(∀ m b h',m<n->I m b h'->Y b h')->I n vs h->(body vs).wp X P (fun l h'=>l.go h' Y B (fun vs h'=>(d vs).wp X P Q h') (fun j vs h'=>(c j vs).wp X P Q h')) h)
 (g:∀ vs h',B vs h'->(kb vs).wp X P Q h'):(T.loop init body kb d c).wp X P Q h :=
 Je I h0 fun Y n vs h f e=>Dm _ (hb Y n vs h f e) (by
  intro l h' a;cases l with
  | ret v=>exact a
  | again vs=>exact a
  | brk vs=>exact g vs h' a
  | retn vs=>exact a
  | out j vs=>exact a)
theorem Ja{body:T}{kf c:List Value->T}{b:Nat->List Value->T}(I:List Value->LH->Prop)
 (hb:body.wp X P (fun l h'=>l.go h' I (fun _ _=>False) (fun vs h'=>(c vs).wp X P Q h') (fun j vs h'=>(b j vs).wp X P Q h')) h)(d:∀ vs h',I vs h'->(kf vs).wp X P Q h'):(T.blk body kf c b).wp X P Q h:=by
 refine Dm body hb ?_;intro l h' a;cases l with
 | ret v=>exact a
 | again vs=>exact d vs h' a
 | brk vs=>exact a
 | retn vs=>exact a
 | out j vs=>exact a
theorem T.unI_int(a:IntKind)(n:Int)(k:Int->T):T.unI a (.int a n) k=k n:=by simp[T.unI]
theorem T.popI_int(b:IntKind)(n:Int)(l:List Value)(k:Int->List Value->T):T.popI b (.int b n::l) k=k n l:=by simp[T.popI]
/-! ### a taken apart; leaves -/
theorem gD{a:IntKind}{n:Int}{k:Int->T}(b:(k n).wp X P Q h):(T.unI a (.int a n) k).wp X P Q h:=by rw[T.unI_int];exact b
theorem gC{n:Bool}{k:Bool->T}(a:(k n).wp X P Q h):(T.unB (.bool n) k).wp X P Q h:=a
theorem gG{k:Option Addr->Nat->Nat->T}(a:(k p n c).wp X P Q h):(T.unS (.slice p n c) k).wp X P Q h:=a
theorem gQ{k:Option Addr->T}(a:(k p).wp X P Q h):(T.unP (.pointer p) k).wp X P Q h:=a
theorem gP{p:Option Nat}{k:Option Nat->T}(a:(k p).wp X P Q h):(T.unM (.map p) k).wp X P Q h:=a
theorem t_unC{p:Option Nat}{k:Option Nat->T}(a:(k p).wp X P Q h):(T.unC (.chan p) k).wp X P Q h:=a
theorem Qs{p:ByteArray}{k:ByteArray->T}(a:(k p).wp X P Q h):(T.unStr (.string p) k).wp X P Q h:=a
theorem gL{k:Value->List Value->T}(a:(k v l).wp X P Q h):(T.unCons (v::l) k).wp X P Q h:=a
theorem gB{k:T}(a:k.wp X P Q h):(T.unNil [] k).wp X P Q h:=a
theorem gJ{k:List Value->T}(a:(k l).wp X P Q h):(T.unAgg (.agg l.toArray) k).wp X P Q h:=a
theorem gK{k:List Value->T}(a:(k l).wp X P Q h):(T.unTup (.tuple l.toArray) k).wp X P Q h:=a
theorem gA{a:IntKind}{n:Int}{k:Int->List Value->T}(b:(k n l).wp X P Q h):(T.popI a (.int a n::l) k).wp X P Q h:=by rw[T.popI_int];exact b
theorem gE{n:Bool}{k:Bool->List Value->T}(a:(k n l).wp X P Q h):(T.popB (.bool n::l) k).wp X P Q h:=a
theorem gF{k:Option Addr->Nat->Nat->List Value->T}(a:(k p n c l).wp X P Q h):(T.popS (.slice p n c::l) k).wp X P Q h:=a
theorem gP2{k:Addr->List Value->T}(b:(k a l).wp X P Q h):(T.popA (.pointer (some a)::l) k).wp X P Q h:=b
theorem Jt{p:ByteArray}{k:ByteArray->List Value->T}(a:(k p l).wp X P Q h):(T.popStr (.string p::l) k).wp X P Q h:=a
theorem gN{p:Value}{k:Value->List Value->T}(a:(k p l).wp X P Q h):(T.popV (p::l) k).wp X P Q h:=a
theorem Qh{A:Value->LH->Prop}(a:A v h):(T.leaf (.ret v)).wp X P (retQ A) h:=a
section
variable {Y B R:List Value->LH->Prop} {O:Nat->List Value->LH->Prop}
variable {vs:List Value}
theorem Qj(a:Y vs h):(T.leaf (.again vs)).wp X P (fun l h'=>l.go h' Y B R O) h:=a
theorem gH(a:B vs h):(T.leaf (.brk vs)).wp X P (fun l h'=>l.go h' Y B R O) h:=a
theorem gI(a:R vs h):(T.leaf (.retn vs)).wp X P (fun l h'=>l.go h' Y B R O) h:=a
theorem gR{j:Nat}(a:O j vs h):(T.leaf (.out j vs)).wp X P (fun l h'=>l.go h' Y B R O) h:=a
theorem Ju{h₀:LH}(b:h₀.le h)(a:Y vs h):(T.leaf (.again vs)).wp X P (fun l h'=>h₀.le h'/\l.go h' Y B R O) h:=⟨b,a⟩
theorem t_retnE{h₀:LH}(b:h₀.le h)(a:R vs h):(T.leaf (.retn vs)).wp X P (fun l h'=>h₀.le h'/\l.go h' Y B R O) h:=⟨b,a⟩
end
/-! ### Contracts of functions that leave the memory as it is -/
def Pu(P:Program)(f:FuncId)(args:Array Value)(h:LH)(v:Value):Prop:=FW X0 P f args h fun r h'=>r=v/\h'=h
theorem t_pu{k:Value->T}(c:Pu P f args h v)(a:(k v).wp X P Q h):(T.call false f args k).wp X P Q h :=
 Jp (Yx c) (by rintro _ _ ⟨rfl,rfl⟩;exact a)
def Gr(P:Program)(f:FuncId)(args:Array Value)(h:LH)(V:Value->LH->Prop):Prop:=FW X0 P f args h fun r h'=>h.le h'/\V r h'
theorem t_gr{k:Value->T}{V:Value->LH->Prop}(c:Gr P f args h V)(b:∀ v h',h.le h'->V v h'->(k v).wp X P Q h'):(T.call false f args k).wp X P Q h :=
 Jp (Yx c) fun v h' a=>b v h' a.1 a.2
theorem Gr.mono{f:FuncId}{args:Array Value}{V b:Value->LH->Prop}(c:Gr P f args h V)(hv:∀ v h',h.le h'->V v h'->b v h'):Gr P f args h b :=
 FW.mono c fun v h' a=>⟨a.1,hv v h' a.1 a.2⟩
theorem noRF(h:(fd.body.all fun c=>!hasRF c)=true):∀ c,fd.body=some c->hasRF c=false:=fun c hc=>by rw[hc]at h;simpa using h
theorem Yq{priv : List Nat}{loops joins : List LoopNote}{kd : CallKind}{args : List Value}{t : T}{A : Value -> LH -> Prop}(ht : ftree { P := P, priv := priv, loops := loops, joins := joins, kd := kd } fd args = t)(hkd : kd ≠ .early)(hf : P.funcs[f]? = some fd)(hn : (fd.name == "runtime.NumGoroutine") = false)(hX : XOK X)
 (hw:t.wp X P (retQ A) h)(ha:X.all\/(fd.body.all fun c=>!hasRF c)=true:=by first|exact .inl fun _ _=>trivial|exact .inr (by kernel_rfl)):FWK X P kd f args.toArray h A:=fwk_of_tree (C:={ P:=P,priv:=priv,loops:=loops,joins:=joins,kd:=kd }) hX hkd (ha.imp_right noRF) hf hn (by rw[ht];exact hw)
abbrev T.np(a b:Nat)(k:T):T:=.need (AV.pp a b=AV.pp a b) k
abbrev T.ne(a b:Value)(k:T):T:=.need (AV.val a=AV.val b) k
abbrev FX(X:XP)(f:FuncId)(a:Array Value)(h:LH)(A:Value->LH->Prop)(t:T):Prop:=XOK X->t.wp X Go.Proofs.Tryz.prog (retQ A) h->FWK X Go.Proofs.Tryz.prog .normal f a h A
theorem fk(priv : List Nat)(loops joins : List LoopNote)(fd : Func){args : List Value}{t : T}{A : Value -> LH -> Prop}{h : LH}(ht : ftree { P := Go.Proofs.Tryz.prog, priv := priv, loops := loops, joins := joins, kd := .normal } fd args = t := by kernel_rfl)(hf : Go.Proofs.Tryz.prog.funcs[f]? = some fd := by kernel_rfl)(hn : (fd.name == "runtime.NumGoroutine") = false := by kernel_rfl)(ha : (fd.body.all fun c => !hasRF c) = true := by kernel_rfl) : FX X f args.toArray h A t := fun hX hw => Yq ht (by simp) hf hn hX hw (.inr ha)
abbrev FY(X:XP)(f:FuncId)(a:Array Value)(h:LH)(A:Value->LH->Prop)(t:T):Prop:=XOK X->t.wp X Go.Proofs.Tryz.prog (retQ A) h->(ha:X.all:=by exact fun _ _=>trivial)->FWK X Go.Proofs.Tryz.prog .normal f a h A
abbrev FZ(X:XP)(f:FuncId)(a:Array Value)(h:LH)(A:Value->LH->Prop)(t:T):Prop:=XOK X->t.wp X Go.Proofs.Tryz.prog (retQ A) h->X.all->FWK X Go.Proofs.Tryz.prog .normal f a h A
theorem fj(priv : List Nat)(loops joins : List LoopNote)(fd : Func){args : List Value}{t : T}{A : Value -> LH -> Prop}{h : LH}(ht : ftree { P := Go.Proofs.Tryz.prog, priv := priv, loops := loops, joins := joins, kd := .normal } fd args = t := by kernel_rfl)(hf : Go.Proofs.Tryz.prog.funcs[f]? = some fd := by kernel_rfl)(hn : (fd.name == "runtime.NumGoroutine") = false := by kernel_rfl) : FZ X f args.toArray h A t := fun hX hw ha => Yq ht (by simp) hf hn hX hw (.inl ha)
def T.nds(l:List AV)(k:T):T:=l.foldr (fun a k=>.need (a=a) k) k
theorem gY{X:XP}{P:Program}{Q:Leaf->LH->Prop}{h:LH}{l:List AV}{k:T}(b:k.wp X P Q h):(T.nds l k).wp X P Q h:=by
  induction l with
  | nil=>exact b
  | cons a l c=>exact⟨rfl,c⟩
abbrev AV.U:AV:=.val (.tuple #[])
abbrev AV.O(a:Addr):AV:=.val (.pointer (some a))
abbrev AV.S(p:Option Addr)(n c:Nat):AV:=.val (.slice p n c)
abbrev AV.B(b:Bool):AV:=.val (.bool b)
instance (priority:=low):Coe Value AV:=⟨.val⟩
instance (priority:=low):Coe Int AV:=⟨fun n=>.val (.int .i64 n)⟩
instance (priority:=low):Coe Bool AV:=⟨fun b=>.val (.bool b)⟩
instance (priority:=low):Coe Int Value:=⟨.int .i64⟩
instance (priority:=low):Coe Bool Value:=⟨.bool⟩
instance (priority:=low):Coe Nat Value:=⟨fun n=>.int .i64 (n:Int)⟩
abbrev T.li:=T.loadI .i64
abbrev T.pi:=T.popI .i64
abbrev T.ui:=T.unI .i64
abbrev T.nU(k:T):T:=.ne (.tuple #[]) (.tuple #[]) k
abbrev T.nO(a:Addr)(k:T):T:=.ne (.pointer (some a)) (.pointer (some a)) k
abbrev T.nS(p:Option Addr)(n c:Nat)(k:T):T:=.ne (.slice p n c) (.slice p n c) k
abbrev T.nb(b:Bool)(k:T):T:=.ne (.bool b) (.bool b) k
abbrev T.nf(b c:Bool)(k:T):T:=.ne (.bool b) (.bool c) k
abbrev T.nq(a b:Addr)(k:T):T:=.ne (.pointer (some a)) (.pointer (some b)) k
abbrev T.cl(f:FuncId)(a:Array Value)(k:Value->T):T:=.call false f a k
abbrev T.cT(f:FuncId)(a:Array Value)(k:Value->List Value->T):T:=.call false f a fun v=>.unTup v fun l=>.unCons l k
abbrev T.cI(f:FuncId)(a:Array Value)(k:Int->T):T:=.call false f a fun v=>.unI .i64 v k
abbrev T.cB(f:FuncId)(a:Array Value)(k:Bool->T):T:=.call false f a fun v=>.unB v k
abbrev T.rt(v:Value):T:=.leaf (.ret v)
abbrev T.ag(l:List Value):T:=.leaf (.again l)
abbrev T.bk(l:List Value):T:=.leaf (.brk l)
abbrev T.rn(l:List Value):T:=.leaf (.retn l)
abbrev T.nd(v:Value)(k:T):T:=.ne v v k
/-! ### Numbers -/
theorem Qm{n:Int}(h1 : -9223372036854775808<=n)(h2:n<=9223372036854775807):IntKind.i64.wrap n=n:=by
 have a:(2^IntKind.i64.bits:Int)=18446744073709551616:=rfl;have b:(2^(IntKind.i64.bits-1):Int)=9223372036854775808:=rfl;simp only[IntKind.wrap,a,b,show IntKind.i64.signed=true from rfl,Bool.true_and,decide_eq_true_eq];split<;>omega
structure Hold(q:Prop):Prop where
 out:q
theorem gZ{p q:Prop}(k:q)(e:Hold q->p:=by intro k;(repeat (first|(with_reducible first|apply gA|apply gB|apply gC|apply gD|apply gE|apply gF|apply gG|apply gH|apply gI|apply gJ|apply gK|apply gL|apply gM|apply gN|apply gO|apply gP|apply gQ|apply gR|apply gP2|apply gP3|apply gY)|((with_reducible first|apply gT|apply gS2);first|exact rfl|assumption|omega|exact⟨⟩)|((with_reducible first|apply gL0|apply gL1|apply gL2|apply gL3|apply gL4);assumption)));exact k.out):p:=e ⟨k⟩
theorem yF {s t:T}{X:XP}{P:Program}{Q:Leaf->LH->Prop}{h:LH}(k:t.wp X P Q h)(e:Hold ((bif false then s else t).wp X P Q h)->g:=by intro k;exact gZ k.out):g:=e ⟨k⟩
theorem yT {s t:T}{X:XP}{P:Program}{Q:Leaf->LH->Prop}{h:LH}(k:s.wp X P Q h)(e:Hold ((bif true then s else t).wp X P Q h)->g:=by intro k;exact gZ k.out):g:=e ⟨k⟩
theorem yI {s t:T}{X:XP}{P:Program}{Q:Leaf->LH->Prop}{h:LH}(c:b=true->s.wp X P Q h)(d:b=false->t.wp X P Q h)(e:Hold ((bif b then s else t).wp X P Q h)->g:=by intro k;exact gZ k.out):g:=e ⟨Qt c d⟩
theorem yJ {p:Prop}[Decidable p]{s t:T}{X:XP}{P:Program}{Q:Leaf->LH->Prop}{h:LH}(c:p->s.wp X P Q h)(d:¬p->t.wp X P Q h)(e:Hold ((bif decide p then s else t).wp X P Q h)->g:=by intro k;exact gZ k.out):g:=e ⟨t_if c d⟩
end
section
def Sl{α:Type}(E:Cells->Addr->α->Prop)(k:Nat)(h:Cells)(p:Option Addr)(n:Nat)(l:List α):Prop :=
 n=l.length/\l.length<4611686018427387904/\∀ i x,l[i]?=some x->∃ a,p=some a/\E h (a.add (i*k)) x
def Rd(h h':Cells):Prop:=∀ a v,h.cell? a=some v->h'.cell? a=some v
variable {h h':Cells}{k n i:Nat}{p:Option Addr}
theorem Jj(a:h.le h'):Rd h h':=fun _ _ hc=>Qo a hc
theorem Rd.refl(h:Cells):Rd h h:=fun _ _ hc=>hc
theorem Rd.trans{a b c:Cells}(h1:Rd a b)(h2:Rd b c):Rd a c:=fun x v hc=>h2 x v (h1 x v hc)
def Grow{α:Type}(E:Cells->Addr->α->Prop):Prop:=∀ (h h':Cells) (a:Addr) (x:α),Rd h h'->E h a x->E h' a x
theorem Sl.rd{α:Type}{E:Cells->Addr->α->Prop}(b:Grow E){l:List α}(d:Rd h h')(s:Sl E k h p n l):Sl E k h' p n l :=
 ⟨s.1,s.2.1,fun i x e=>by obtain⟨a,c,he⟩:=s.2.2 i x e;exact⟨a,c,b _ _ _ _ d he⟩⟩
theorem Sl.le{α:Type}{E:Cells->Addr->α->Prop}(a:Grow E){k:Nat}{h h':Cells}{p:Option Addr}{n:Nat}{l:List α}(b:h.le h')(s:Sl E k h p n l):Sl E k h' p n l:=s.rd a (Jj b)
theorem Sl.nil{α:Type}{E:Cells->Addr->α->Prop}:Sl E k h p 0 []:=⟨rfl,by show 0<_;omega,fun i x a=>by simp at a⟩
theorem Sl.at{α:Type}{E:Cells->Addr->α->Prop}{l:List α}(s:Sl E k h p n l)(d:i<n):∃ x a,l[i]?=some x/\p=some a/\E h (a.add (i*k)) x:=by
 have b:i<l.length:=s.1▸d;obtain⟨a,c,he⟩:=s.2.2 i l[i] (List.getElem?_eq_getElem b);exact⟨l[i],a,List.getElem?_eq_getElem b,c,he⟩
def IntE(h:Cells)(a:Addr)(n:Int):Prop:=h.cell? (a.add 0)=some (.int .i64 n)
theorem IntE.grow:Grow IntE:=fun _ _ _ _ a h=>a _ _ h
def IsI(n:Int):Prop:=-9223372036854775808<=n/\n<=9223372036854775807
theorem Jy{α:Type}{l:List α}{x:α}(b:l[i]?=some x):l.drop i=x::l.drop (i+1):=by
 obtain⟨a,e⟩:=List.getElem?_eq_some_iff.1 b;rw[List.drop_eq_getElem_cons a,e]
end
section
abbrev HB(t:Trace):Nat->Nat->Prop:=HappensBefore t
variable {t u:Trace}{i j p n ng ng' g:Nat}{b:Bool}{gone gone':Nat->Prop}{fn:FuncId}{pos:String}{es:Array Event}
theorem HB.append(h:HB t i j):HB (t++u) i j:=hb_app u h
theorem HB.po{x y:MemOp}(h:i<j)(a:t[i]?=some x)(b:t[j]?=some y)(e:x.g=y.g):HB t i j:=hb_po h a b e
def Knows(t:Trace)(p g:Nat):Prop:=∃ q x,t[q]?=some x/\x.g=g/\(p=q\/HB t p q)
theorem Knows.append{t u:Trace}{p g:Nat}(h:Knows t p g):Knows (t++u) p g:=by
 obtain⟨q,x,h1,h2,h3⟩:=h;refine⟨q,x,?_,h2,h3.imp_right HB.append⟩;rw[getElem?_append_old (lt_size_of_getElem? h1)];exact h1
theorem Knows.self{x:MemOp}(h:t[p]?=some x):Knows t p x.g:=⟨p,x,h,rfl,.inl rfl⟩
theorem Knows.new{y:MemOp}(h:Knows t p y.g)(b:(t++u)[j]?=some y)(d:t.size<=j):HB (t++u) p j:=by
 obtain⟨q,x,h1,h2,h3⟩:=h;have c:q<j:=Nat.lt_of_lt_of_le (lt_size_of_getElem? h1) d;have a:(t++u)[q]?=some x:=by rw[getElem?_append_old (lt_size_of_getElem? h1)];exact h1
 have e:HB (t++u) q j:=HB.po c a b h2;rcases h3 with rfl|h3
 ·exact e
 ·exact .trans h3.append e
abbrev Key:=Nat×Option Nat
def key? : Loc->Option Key
 | .cell a=>some (a.block,some a.off)
 | .obj r=>some (r,none)
 | _=>none
def Touches(t:Trace)(p:Nat)(k:Key)(wr:Bool):Prop:=∃ op x,t[p]?=some op/\op.act.touch?=some x/\key? x.loc=some k/\x.write=wr
def Plain(t:Trace)(p:Nat):Prop:=∃ op x,t[p]?=some op/\op.act.touch?=some x/\x.kind=.plain
theorem Touches.lt{k:Key}(h:Touches t p k b):p<t.size:=by
 obtain⟨_,_,h,_⟩:=h;exact lt_size_of_getElem? h
theorem Touches.old{k:Key}(h:Touches (t++u) p k b)(hp:p<t.size):Touches t p k b:=by
 obtain⟨op,x,h,h'⟩:=h;rw[getElem?_append_old hp]at h;exact⟨op,x,h,h'⟩
theorem Plain.old(h:Plain (t++u) p)(hp:p<t.size):Plain t p:=by
 obtain⟨op,x,h,h'⟩:=h;rw[getElem?_append_old hp]at h;exact⟨op,x,h,h'⟩
theorem counts_old(hp:p<t.size):(t++u).counts p↔t.counts p:=by
 unfold Trace.counts;rw[heard_old hp,show (t++u).act? p=t.act? p by simp only[Trace.act?,getElem?_append_old hp]]
structure Sy where
 sp:Nat->Prop
 use:Nat->Nat->Prop
 dp:Nat->Nat
structure TI(y:Sy)(t:Trace)(n ng:Nat)(hold:Nat->Key->Option Bool)(gone:Nat->Prop):Prop where
 hears:∀ g,¬ gone g->Deaf t g=y.dp g
 who:∀ op∈t,op.g<ng
 spl:∀ r,y.sp r->r<n
 lt:∀ p k b,Touches t p k b->k.1<n
 held:∀ g k b,hold g k=some b->k.1<n/\¬ y.sp k.1
 excl:∀ g g' k,g≠g'->hold g k=some true->hold g' k=none
 own:∀ g k,hold g k=some true->∀ p b,Touches t p k b->Knows t p g
 shared:∀ g k b,hold g k=some b->∀ p,Touches t p k true->Knows t p g
 norace:∀ i j k b b',¬ y.sp k.1->i<j->Touches t i k b->Touches t j k b'->(b=true\/b'=true)->HB t i j
 spc:∀ i j k b b',y.sp k.1->i<j->Touches t i k b->Touches t j k b'->(b=true\/b'=true)->(Plain t i\/Plain t j)->HB t i j
 said:∀ (p:Nat) op x,t[p]?=some op->op.act.touch?=some x->x.kind=.said->op.g=0
 acc:∀ g r,y.use g r->y.sp r/\∀ p k b,k.1=r->Touches t p k b->Plain t p->Knows t p g
 handed:∀ g,gone g->∀ p op,t[p]?=some op->op.g=g->t.counts p->Knows t p 0
 norel:∀ op∈t,∀ a,op.act≠.mark (.release a)
theorem key_of_memory{l:Loc}(h:l.isMemory=true):∃ k,key? l=some k:=by
 cases l<;>simp[Loc.isMemory]at h<;>exact⟨_,rfl⟩
theorem TI.noRace{y:Sy}{hold:Nat->Key->Option Bool}(h:TI y t n ng hold gone)(said:Bool):¬ Race said t:=by
 rintro⟨i,j,m,⟨a,b,s,hb,hc⟩,q,_⟩;obtain⟨g,o,d⟩:=touch_of s;obtain⟨l,p,f⟩:=touch_of hb;obtain⟨e,hm,hw,u⟩:=hc;obtain⟨k,c⟩:=key_of_memory hm;by_cases r:y.sp k.1
 ·rcases u with hp|hp|⟨_,s1,s2⟩
  ·exact q (h.spc i j k _ _ r m ⟨g,a,o,d,c,rfl⟩ ⟨l,b,p,f,e▸c,rfl⟩ hw (.inl ⟨g,a,o,d,hp⟩))
  ·exact q (h.spc i j k _ _ r m ⟨g,a,o,d,c,rfl⟩ ⟨l,b,p,f,e▸c,rfl⟩ hw (.inr ⟨l,b,p,f,hp⟩))
  ·exact q (HB.po m o p ((h.said i g a o d s1).trans (h.said j l b p f s2).symm))
 ·exact q (h.norace i j k _ _ r m ⟨g,a,o,d,c,rfl⟩ ⟨l,b,p,f,e▸c,rfl⟩ hw)
theorem TI.handedOver{y:Sy}{hold:Nat->Key->Option Bool}(h:TI y t n ng hold gone)(d:∀ g,g≠0->g<ng->gone g):t.HandedOver:=by
 intro i g c b hc;obtain⟨op,a,hgo⟩ : ∃ op,t[i]?=some op/\op.g=g:=by
  unfold Trace.g? at c;exact Option.map_eq_some_iff.1 c
 obtain⟨q,z,h1,h2,h3⟩:=h.handed g (d g b (by rw[<- hgo];exact h.who _ (mem_of_getElem? a))) i op a hgo hc;rcases h3 with rfl|h3
 ·rw[h1]at a;cases a;rw[h2]at hgo;exact absurd hgo.symm b
 ·exact⟨q,by simp[Trace.g?,h1,h2],h3⟩
theorem TI.mono{y:Sy}{q:Nat}{hold a:Nat->Key->Option Bool}(h:TI y t n ng hold gone)(j:n<=q)(l:ng<=ng')(o:∀ g,gone' g↔gone g)
 (i:∀ g k b,a g k=some b->∃ d,hold g k=some d/\(b=true->d=true))(u:∀ g g' k,g≠g'->a g k=some true->a g' k=none):TI y t q ng' a gone' where
 hears g f:=h.hears g fun e=>f ((o g).2 e)
 who op m:=Nat.lt_of_lt_of_le (h.who op m) l
 spl r hr:=Nat.lt_of_lt_of_le (h.spl r hr) j
 lt p k b s:=Nat.lt_of_lt_of_le (h.lt p k b s) j
 held g k b hb:=by
  obtain⟨d,c,_⟩:=i g k b hb;exact⟨Nat.lt_of_lt_of_le (h.held g k d c).1 j,(h.held g k d c).2⟩
 excl:=u
 own g k hb:=by
  obtain⟨d,c,e⟩:=i g k true hb;cases e rfl;exact h.own g k c
 shared g k b hb:=by
  obtain⟨d,c,_⟩:=i g k b hb;exact h.shared g k d c
 norace:=h.norace
 spc:=h.spc
 said:=h.said
 acc:=h.acc
 handed g f:=h.handed g ((o g).1 f)
 norel:=h.norel
theorem Js{op:MemOp}(h:op∈MemOp.ofEvents g fn pos es):op.g=g/\∃ e∈es,op.act=.ofEvent e:=by
 unfold MemOp.ofEvents at h;split at h
 ·simp at h
 ·simp only[Array.mem_map]at h;obtain⟨e,he,rfl⟩:=h;exact⟨rfl,e,he,rfl⟩
theorem deafBehind_none{d:Nat}(h:∀ e∈es,e.loc≠.mark .disable/\e.loc≠.mark .enable):deafBehind d es=d:=by
 unfold deafBehind;rw[<- Array.foldl_toList];have h':∀ e∈es.toList,e.loc≠.mark .disable/\e.loc≠.mark .enable:=fun e he=>h e (Array.mem_toList_iff.1 he);revert h';generalize es.toList=l;intro h'
 induction l with
 | nil=>rfl
 | cons a l b =>
  rw[List.foldl_cons];have:=h' a List.mem_cons_self;split
  ·rename_i e;exact absurd e this.1
  ·rename_i e;exact absurd e this.2
  ·exact b fun e he=>h' e (List.mem_cons_of_mem _ he)
theorem TI.step{y:Sy}{t:Trace}{n O ng:Nat}{hold:Nat->Key->Option Bool}{gone:Nat->Prop}(h:TI y t n ng hold gone){g:Nat}(V:g<ng)(W:¬ gone g){fn:FuncId}{pos:String}{es:Array Event}(S:n<=O)
 (I:∀ e∈es,(∀ m,e.loc=.mark m->softM m)/\∀ k,key? e.loc=some k->k.1<O/\(n<=k.1\/∃ b,hold g k=some b/\(e.write=true->b=true)))
 {L:Key->Option Bool}(R:∀ k b,L k=some b->hold g k=some b\/(n<=k.1/\k.1<O)) :
  TI y (t++MemOp.ofEvents g fn pos es) O ng (fun i=>if i=g then L else hold i) gone:=by
 have hu:∀ op∈MemOp.ofEvents g fn pos es,op.g=g:=fun op d=>(Js d).1;have K:∀ r,n<=r->¬ y.sp r:=fun r hr N=>absurd (h.spl r N) (Nat.not_lt.2 hr);have Q:∀ op∈MemOp.ofEvents g fn pos es,∀ x,op.act.touch?=some x->x.kind≠.said/\∀ k,key? x.loc=some k->k.1<O/\(n<=k.1\/∃ s,hold g k=some s/\(x.write=true->s=true)):=by
  intro op d x D;obtain⟨_,e,he,U⟩:=Js d;rw[U]at D;unfold MemAct.ofEvent at D;split at D
  ·cases D
  ·rename_i m _ _;rcases(I _ he).1 m rfl with rfl|⟨f,rfl⟩<;>cases D
  ·simp only[MemAct.touch?]at D;cases D;refine⟨by simp only;split<;>simp,fun k C=>(I e he).2 k C⟩
 have w:∀ p k b,Touches (t++MemOp.ofEvents g fn pos es) p k b->¬ p<t.size->(t++MemOp.ofEvents g fn pos es)[p]?.map (·.g)=some g/\k.1<O/\¬ y.sp k.1/\(n<=k.1\/∃ s,hold g k=some s/\(b=true->s=true)):=by
  rintro p k b ⟨op,x,hp,D,C,hw⟩ B;rcases getElem?_append_cases hp with⟨F,_⟩|⟨_,d⟩
  ·exact absurd F B
  ·have:=(Q op d x D).2 k C;refine⟨by rw[hp];simp[hu op d],this.1,?_,this.2.imp_right ?_⟩
   ·rcases this.2 with h'|⟨s,h1,_⟩
    ·exact K _ h'
    ·exact(h.held g k s h1).2
   ·rintro⟨s,h1,h2⟩;exact⟨s,h1,fun hb=>h2 (by rw[hw,hb])⟩
 have u:∀ p,(t++MemOp.ofEvents g fn pos es)[p]?.map (·.g)=some g->Knows (t++MemOp.ofEvents g fn pos es) p g:=by
  intro p hp;cases J:(t++MemOp.ofEvents g fn pos es)[p]? with
  | none=>rw[J]at hp;cases hp
  | some op=>rw[J]at hp;simp at hp;have:=Knows.self J;rw[hp]at this;exact this
 refine⟨?_,?_,fun r hr=>Nat.lt_of_lt_of_le (h.spl r hr) S,?_,?_,?_,?_,?_,?_,?_,?_,?_,?_,?_⟩
 ·intro i A;by_cases l:i=g
  ·rw[l,Deaf_own,deafBehind_none,<- l]
   ·exact h.hears i A
   ·intro e he;refine⟨fun Z=>?_,fun Z=>?_⟩<;>(rcases(I e he).1 _ Z with hc|⟨f,hc⟩<;>cases hc)
  ·rw[Deaf_other t (fun e=>l e.symm) _ hu];exact h.hears i A
 ·intro op d;rcases Array.mem_append.1 d with d|d
  ·exact h.who op d
  ·rw[hu op d];exact V
 ·intro p k b q;rcases Nat.lt_or_ge p t.size with hp|hp
  ·exact Nat.lt_of_lt_of_le (h.lt p k b (q.old hp)) S
  ·exact(w p k b q (Nat.not_lt.2 hp)).2.1
 ·intro i k b hb;split at hb
  ·rcases R k b hb with hb|⟨h1,hb⟩
   ·exact⟨Nat.lt_of_lt_of_le (h.held g k b hb).1 S,(h.held g k b hb).2⟩
   ·exact⟨hb,K _ h1⟩
  ·exact⟨Nat.lt_of_lt_of_le (h.held i k b hb).1 S,(h.held i k b hb).2⟩
 ·intro i j k o hb;by_cases l:i=g
  ·rw[if_pos l]at hb;have P:j≠g:=fun e=>o (l.trans e.symm);rw[if_neg P];rcases R k true hb with hb|⟨hr,_⟩
   ·exact h.excl g j k (fun e=>P e.symm) hb
   ·cases v:hold j k with
    | none=>rfl
    | some b=>exact absurd (h.held j k b v).1 (Nat.not_lt.2 hr)
  ·rw[if_neg l]at hb;by_cases P:j=g
   ·rw[if_pos P];cases v:L k with
    | none=>rfl
    | some b =>
     rcases R k b v with h'|⟨hr,_⟩
     ·rw[h.excl i g k l hb]at h';cases h'
     ·exact absurd (h.held i k true hb).1 (Nat.not_lt.2 hr)
   ·rw[if_neg P];exact h.excl i j k o hb
 ·intro i k hb p b q;rcases Nat.lt_or_ge p t.size with hp|hp
  ·by_cases l:i=g
   ·rw[if_pos l]at hb;rcases R k true hb with hb|⟨hr,_⟩
    ·rw[l];exact(h.own g k hb p b (q.old hp)).append
    ·exact absurd (h.lt p k b (q.old hp)) (Nat.not_lt.2 hr)
   ·rw[if_neg l]at hb;exact(h.own i k hb p b (q.old hp)).append
  ·have ⟨h1,_,_,h3⟩:=w p k b q (Nat.not_lt.2 hp);by_cases l:i=g
   ·rw[l];exact u p h1
   ·rw[if_neg l]at hb;rcases h3 with h3|⟨s,h3,_⟩
    ·exact absurd (h.held i k true hb).1 (Nat.not_lt.2 h3)
    ·rw[h.excl i g k l hb]at h3;cases h3
 ·intro i k b hb p q;rcases Nat.lt_or_ge p t.size with hp|hp
  ·by_cases l:i=g
   ·rw[if_pos l]at hb;rcases R k b hb with hb|⟨hr,_⟩
    ·rw[l];exact(h.shared g k b hb p (q.old hp)).append
    ·exact absurd (h.lt p k true (q.old hp)) (Nat.not_lt.2 hr)
   ·rw[if_neg l]at hb;exact(h.shared i k b hb p (q.old hp)).append
  ·have ⟨h1,_,_,h3⟩:=w p k true q (Nat.not_lt.2 hp);by_cases l:i=g
   ·rw[l];exact u p h1
   ·rw[if_neg l]at hb;rcases h3 with h3|⟨s,h3,e⟩
    ·exact absurd (h.held i k b hb).1 (Nat.not_lt.2 h3)
    ·cases e rfl;rw[h.excl g i k (fun e=>l e.symm) h3]at hb;cases hb
 ·intro i j k b s N o G H hw;rcases Nat.lt_or_ge j t.size with v|v
  ·exact(h.norace i j k b s N o (G.old (Nat.lt_trans o v)) (H.old v) hw).append
  ·have ⟨h1,_,_,h3⟩:=w j k s H (Nat.not_lt.2 v);cases J:(t++MemOp.ofEvents g fn pos es)[j]? with
   | none=>rw[J]at h1;cases h1
   | some z =>
    rw[J]at h1;simp at h1;rcases Nat.lt_or_ge i t.size with A|A
    ·have q:=G.old A;have C:Knows t i g:=by
      rcases h3 with h3|⟨c,h3,e⟩
      ·exact absurd (h.lt i k b q) (Nat.not_lt.2 h3)
      ·cases hw with
       | inl hb=>subst hb;exact h.shared g k c h3 i q
       | inr hb=>cases e hb;exact h.own g k h3 i b q
     rw[<- h1]at C;exact C.new J v
    ·have ⟨E,_,_,_⟩:=w i k b G (Nat.not_lt.2 A);cases M:(t++MemOp.ofEvents g fn pos es)[i]? with
     | none=>rw[M]at E;cases E
     | some x=>rw[M]at E;simp at E;exact HB.po o M J (E.trans h1.symm)
 ·intro i j k b s N o G H hw X;rcases Nat.lt_or_ge j t.size with v|v
  ·have A:=Nat.lt_trans o v;exact(h.spc i j k b s N o (G.old A) (H.old v) hw (X.imp (·.old A) (·.old v))).append
  ·exact absurd N (w j k s H (Nat.not_lt.2 v)).2.2.1
 ·intro p op x hp D C;rcases getElem?_append_cases hp with⟨_,F⟩|⟨_,d⟩
  ·exact h.said p op x F D C
  ·exact absurd C (Q op d x D).1
 ·intro i r hr;obtain⟨h1,h2⟩:=h.acc i r hr;refine⟨h1,fun p k b C q hp=>?_⟩;rcases Nat.lt_or_ge p t.size with B|B
  ·exact(h2 p k b C (q.old B) (hp.old B)).append
  ·exact absurd (C▸h1) (w p k b q (Nat.not_lt.2 B)).2.2.1
 ·intro i A p op hp d hc;rcases getElem?_append_cases hp with⟨Y,F⟩|⟨_,hm⟩
  ·exact(h.handed i A p op F d ((counts_old Y).1 hc)).append
  ·rw[<- d,hu op hm]at A;exact absurd A W
 ·intro op d a;rcases Array.mem_append.1 d with d|d
  ·exact h.norel op d a
  ·obtain⟨_,e,he,U⟩:=Js d;rw[U];unfold MemAct.ofEvent;split
   ·exact nofun
   ·rename_i m _ _;rcases(I _ he).1 m rfl with rfl|⟨f,rfl⟩<;>exact nofun
   ·exact nofun
theorem Touches.untouched(hu:∀ op∈u,op.act.touch?=none){k:Key}(h:Touches (t++u) p k b):Touches t p k b:=by
 rcases Nat.lt_or_ge p t.size with hp|hp
 ·exact h.old hp
 ·obtain⟨op,x,h1,h2,_⟩:=h;rcases getElem?_append_cases h1 with⟨c,_⟩|⟨_,a⟩
  ·exact absurd c (Nat.not_lt.2 hp)
  ·rw[hu op a]at h2;cases h2
theorem counts_untouched(hu:∀ op∈u,op.act.touch?=none)(h:(t++u).counts p):p<t.size/\t.counts p:=by
 rcases Nat.lt_or_ge p t.size with hp|hp
 ·exact⟨hp,(counts_old hp).1 h⟩
 ·obtain⟨x,c,_⟩:=h;obtain⟨op,h1,h2⟩:=touch_of c;rcases getElem?_append_cases h1 with⟨b,_⟩|⟨_,a⟩
  ·exact absurd b (Nat.not_lt.2 hp)
  ·rw[hu op a]at h2;cases h2
theorem U4(hu:∀ op∈u,∀ m,op.act≠.mark m)(g:Nat):Deaf (t++u) g=Deaf t g:=by
 obtain⟨l⟩:=u;rw[Deaf_append];have h':∀ op∈l,∀ m,op.act≠.mark m:=fun op b=>hu op (by simpa using b);generalize Deaf t g=d
 induction l generalizing d with
 | nil=>rfl
 | cons a l c =>
  rw[List.foldl_cons];have e:deafStep g d a=d:=by
   unfold deafStep;split
   ·rename_i e;exact absurd e (h' a List.mem_cons_self _)
   ·rename_i e;exact absurd e (h' a List.mem_cons_self _)
   ·rfl
  rw[e];exact c (fun op b=>hu op (by simp at b ⊢;exact .inr b)) (fun op b=>h' op (List.mem_cons_of_mem _ b)) d
theorem TI.deal{y:Sy}{hold d:Nat->Key->Option Bool}(h:TI y t n ng hold gone)(hu:∀ op∈u,op.act.touch?=none/\(∀ m,op.act≠.mark m)/\op.g<ng')(G:ng<=ng')
 (f:∀ g,gone g->gone' g)
 (held:∀ g k b,d g k=some b->k.1<n/\¬ y.sp k.1)(w:∀ g g' k,g≠g'->d g k=some true->d g' k=none)
 (own:∀ g k,d g k=some true->∀ p b,Touches t p k b->Knows (t++u) p g)
 (shared:∀ g k b,d g k=some b->∀ p,Touches t p k true->Knows (t++u) p g)
 (handed:∀ g,gone' g->∀ p op,t[p]?=some op->op.g=g->t.counts p->Knows (t++u) p 0):TI y (t++u) n ng' d gone':=by
 have un:∀ op∈u,op.act.touch?=none:=fun op c=>(hu op c).1;refine⟨?_,?_,h.spl,fun p k b o=>h.lt p k b (o.untouched un),held,w,fun g k hb p b o=>own g k hb p b (o.untouched un),fun g k b hb p o=>shared g k b hb p (o.untouched un),?_,?_,?_,?_,?_,fun op c a=>(Array.mem_append.1 c).elim (fun c=>h.norel op c a) fun c=>(hu op c).2.1 _⟩
 ·intro g B;rw[U4 fun op c=>(hu op c).2.1];exact h.hears g fun e=>B (f g e)
 ·intro op c;rcases Array.mem_append.1 c with c|c
  ·exact Nat.lt_of_lt_of_le (h.who op c) G
  ·exact(hu op c).2.2
 ·intro i j k b z J l C D hw;exact(h.norace i j k b z J l (C.untouched un) (D.untouched un) hw).append
 ·intro i j k b z J l C D hw I;have q:=C.untouched un;have s:=D.untouched un;exact(h.spc i j k b z J l q s hw (I.imp (·.old q.lt) (·.old s.lt))).append
 ·intro p op x hp w E;rcases getElem?_append_cases hp with⟨_,H⟩|⟨_,c⟩
  ·exact h.said p op x H w E
  ·rw[un op c]at w;cases w
 ·intro g r hr;obtain⟨h1,h2⟩:=h.acc g r hr;refine⟨h1,fun p k b E o hp=>?_⟩;have v:=o.untouched un;exact(h2 p k b E v (hp.old v.lt)).append
 ·intro g B p op hp c hc;obtain⟨F,A⟩:=counts_untouched un hc;rw[getElem?_append_old F]at hp;exact handed g B p op hp c A
theorem TI.say{sy:Sy}{hold:Nat->Key->Option Bool}(h:TI sy t n ng hold gone)(z:g<ng)(y:gone g)(hm:∀ e∈es,Event.mute e=true) :
  TI sy (t++MemOp.ofEvents g fn pos es) n ng hold gone:=by
 have hu:∀ op∈MemOp.ofEvents g fn pos es,op.g=g:=fun op c=>(Js c).1;have un:∀ op∈MemOp.ofEvents g fn pos es,op.act.touch?=none:=by
  intro op c;obtain⟨_,e,he,v⟩:=Js c;rw[v];exact touch_mute (hm e he)
 refine⟨?_,?_,h.spl,fun p k b f=>h.lt p k b (f.untouched un),h.held,h.excl,fun g k hb p b f=>(h.own g k hb p b (f.untouched un)).append,fun g k b hb p f=>(h.shared g k b hb p (f.untouched un)).append,?_,?_,?_,?_,?_,?_⟩
 ·intro i l;rw[Deaf_other t (fun (e:g=i)=>l (by rw[<- e];exact y)) _ hu];exact h.hears i l
 ·intro op c;rcases Array.mem_append.1 c with c|c
  ·exact h.who op c
  ·rw[hu op c];exact z
 ·intro i j k b u G d l A hw;exact(h.norace i j k b u G d (l.untouched un) (A.untouched un) hw).append
 ·intro i j k b u G d l A hw F;have o:=l.untouched un;have q:=A.untouched un;exact(h.spc i j k b u G d o q hw (F.imp (·.old o.lt) (·.old q.lt))).append
 ·intro p op x hp H B;rcases getElem?_append_cases hp with⟨_,E⟩|⟨_,c⟩
  ·exact h.said p op x E H B
  ·rw[un op c]at H;cases H
 ·intro g r hr;obtain⟨h1,h2⟩:=h.acc g r hr;refine⟨h1,fun p k b B f hp=>?_⟩;have s:=f.untouched un;exact(h2 p k b B s (hp.old s.lt)).append
 ·intro g y p op hp c hc;obtain⟨C,w⟩:=counts_untouched un hc;rw[getElem?_append_old C]at hp;exact(h.handed g y p op hp c w).append
 ·intro op c a;rcases Array.mem_append.1 c with c|c
  ·exact h.norel op c a
  ·obtain⟨_,e,he,v⟩:=Js c;rw[v];intro m;have D:=hm e he;unfold MemAct.ofEvent at m;split at m
   ·cases m
   ·cases m;cases D
   ·cases m
end
section
theorem U2{P:Program}{q:Question}{m:Nat}(hm:0<m)(b:q=.select m\/∃ s,q=.extern s m)(w:World):∃ n d,n<m/\∀ {β:Type} (f:Nat->Sem β),(choose q >>= f).run P w=(f n).run P (w.at d):=by
 by_cases a:q.forced=true
 ·refine⟨0,w.drawn,hm,fun f=>?_⟩;show (Sem.choose q fun n=>(Sem.pure n).bind f).run P w=_;simp only[Sem.run,a,if_true];rfl
 ·refine⟨q.cut (w.tape w.drawn q),w.drawn+1,?_,fun f=>?_⟩
  ·rcases b with rfl|⟨s,rfl⟩
   ·exact Nat.mod_lt _ hm
   ·simp only[Question.cut];rw[if_neg (by omega)];exact Nat.mod_lt _ hm
  ·show (Sem.choose q fun n=>(Sem.pure n).bind f).run P w=_;simp only[Sem.run,a];rfl
section
variable {P:Program} {gs:Array Goroutine} {w w₁:World} {sl:Option (Nat×Nat)} {i:Nat} {g g₂:Goroutine} {es:Array Event} {shape:CommShape} {cases:Array CommCase}
theorem crowd_sel_meets(hi:gs[i]?=some g)(h:stepG P (i==0) g w=.comm g₂ cases true shape w₁ es)
 (hcs:∀ (k:Nat) (cc:CommCase),cases[k]?=some cc->∃ c z s,cc=rcase c z/\w₁.heap[c]?=some (.chan 0 #[] false s s false))
 (hall:∀ c j k,(j,k)∈partners (gs.setIfInBounds i ph) c true->k=0/\j≠i/\∃ gj vj zj shj,gs[j]?=some (parked gj #[scase c vj zj] shj))
 (hne:∃ (k:Nat) (c:Nat) (z:Value),cases[k]?=some (rcase c z)/\partners (gs.setIfInBounds i ph) c true≠[]) :
  ∃ (k c:Nat) (z:Value) (s j:Nat) (gj:Goroutine) (vj zj:Value) (shj:CommShape) (d:Nat),cases[k]?=some (rcase c z)/\w₁.heap[c]?=some (.chan 0 #[] false s s false)/\j≠i/\gs[j]?=some (parked gj #[scase c vj zj] shj) /\
   runT P (crowd gs w sl) i=(.next (crowd ((gs.setIfInBounds j (gj.finishComm P #[scase c vj zj] shj 0 undef false)).setIfInBounds i (g₂.finishComm P cases shape k vj true)) ((w₁.at d).setChan c 0 #[] false (s+1) (s+1) false) sl),
    MemOp.ofEvents i g.frame.fn g.frame.place es++#[{ g:=j,fn:=gj.frame.fn,pos:=gj.frame.place,act:=.send c s },{ g:=i,fn:=g₂.frame.fn,pos:=g₂.frame.place,act:=.recv c s 0 },
     { g:=j,fn:=gj.frame.fn,pos:=gj.frame.place,act:=.sendDone c s },{ g:=i,fn:=g₂.frame.fn,pos:=g₂.frame.place,act:=.recvDone c s }]):=by
 rw[runT_crowd_comm hi h];have hill:cases.any (illMade w₁)=false:=any_ill fun cc hcc=>by
  obtain⟨k,hk⟩:=Array.mem_iff_getElem?.1 hcc;obtain⟨c,z,s,rfl,hc⟩:=hcs k cc hk;exact made_recv z hc
 have hways:∀ c z s,w₁.heap[c]?=some (.chan 0 #[] false s s false)->ways w₁ (gs.setIfInBounds i ph) (rcase c z)=(partners (gs.setIfInBounds i ph) c true).map fun (h,k)=>Way.partner h k:=by
  intro c z s hc;simp only[ways,rcase,hc];cases partners (gs.setIfInBounds i ph) c true<;>simp
 unfold communicate;dsimp only;rw[if_neg (show ¬ _ from fun e=>by have e':cases.any (illMade w₁)=true:=e;rw[hill]at e';cases e')];generalize hready:((cases.zipIdx.toList.map fun (c,k)=>(k,c,ways w₁ (gs.setIfInBounds i ph) c)).filter fun (_,_,ws)=>!ws.isEmpty)=ready;have hmem:∀ x∈ready,cases[x.1]?=some x.2.1/\x.2.2=ways w₁ (gs.setIfInBounds i ph) x.2.1/\x.2.2≠[]:=by
  rintro⟨k,c,ws⟩ hx;rw[<- hready]at hx;simp only[List.mem_filter,List.mem_map,Prod.mk.injEq,Prod.exists]at hx;obtain⟨⟨c',k',hm',rfl,rfl,rfl⟩,hne'⟩:=hx;have:=Array.mem_zipIdx_iff_getElem?.1 (Array.mem_toList_iff.1 hm');refine⟨by simpa using this,rfl,?_⟩;intro e;simp only at e;rw[e]at hne';simp at hne'
 have hrne:ready≠[]:=by
  obtain⟨k,c,z,hk,hp⟩:=hne;obtain⟨c',z',s,e,hc⟩:=hcs k _ hk;cases e;intro hnil;have:(k,rcase c z,ways w₁ (gs.setIfInBounds i ph) (rcase c z))∈ready:=by
   rw[<- hready];simp only[List.mem_filter,List.mem_map,Prod.mk.injEq,Prod.exists];refine⟨⟨rcase c z,k,Array.mem_toList_iff.2 (Array.mem_zipIdx_iff_getElem?.2 (by simpa using hk)),rfl,rfl,rfl⟩,?_⟩;rw[hways c z s hc];cases hps:partners (gs.setIfInBounds i ph) c true with
   | nil=>exact absurd hps hp
   | cons _ _=>rfl
  rw[hnil]at this;cases this
 have hre:ready.isEmpty=false:=by cases ready with
  | nil=>exact absurd rfl hrne
  | cons _ _=>rfl
 simp only[hre,Bool.false_eq_true,if_false];obtain⟨a,d1,ha,hrun1⟩:=U2 (P:=P) (q:=.select ready.length) (List.length_pos_iff.2 hrne) (.inl rfl) w₁;obtain⟨⟨k,cc,ws⟩,hget⟩ : ∃ x,ready[a]?=some x:=⟨ready[a],List.getElem?_eq_getElem ha⟩
 obtain⟨hk,hws,hwne⟩:=hmem _ (List.mem_of_getElem? hget);simp only at hk hws hwne;obtain⟨c,z,s,rfl,hc⟩:=hcs k cc hk
 obtain ⟨b, d2, hb, hrun2⟩ := U2 (P := P) (q := .extern "which waiting goroutine is the partner" ws.length) (List.length_pos_iff.2 hwne) (.inr ⟨_, rfl⟩) (w₁.at d1)
 rw[hways c z s hc]at hws;obtain⟨⟨j,kj⟩,hjk⟩ : ∃ p,(partners (gs.setIfInBounds i ph) c true)[b]?=some p:=by
  have hb':b<(partners (gs.setIfInBounds i ph) c true).length:=by rw[hws,List.length_map]at hb;exact hb
  exact⟨_,List.getElem?_eq_getElem hb'⟩
 obtain⟨rfl,hij,gj,vj,zj,shj,hj⟩:=hall c j kj (List.mem_of_getElem? hjk);have hgetD:ready.getD a (0,default,[])=(k,rcase c z,ws):=by rw[List.getD_eq_getElem?_getD,hget];rfl
 have hwD:ws.getD b .closed=.partner j 0:=by rw[hws];exact getD_map_partner _ b (j,0) hjk
 have hpick:(do
   let a <- choose (.select ready.length);let (k,c,ws):=ready.getD a (0,default,[])
   let b <- choose (.extern "which waiting goroutine is the partner" ws.length)
   pure (k,c,ws.getD b .closed):Sem (Nat×CommCase×Way)).run P w₁=.ok (k,rcase c z,.partner j 0) (w₁.at d2):=by
  rw[hrun1];simp only[hgetD];rw[hrun2,hwD];rfl
 refine⟨k,c,z,s,j,gj,vj,zj,shj,d2,hk,hc,hij,hj,?_⟩;have hj':=stand_get (i:=i) hij hj;have hfp:=finishPartner_at P (gs.setIfInBounds i ph) hj' (cs:=#[scase c vj zj]) (sh:=shj) rfl 0 undef;have hgd:(gs.setIfInBounds i ph).getD j default=parked gj #[scase c vj zj] shj:=by rw[Array.getD_eq_getD_getElem?,hj'];rfl
 have hov:offeredValue (gs.setIfInBounds i ph) j 0=vj:=by simp[offeredValue,hj',parked,scase]
 have hcd:(w₁.at d2).heap[c]?=some (.chan 0 #[] false s s false):=hc;rw[hpick];simp only[rcase];simp only[hcd,hfp,hgd,hov,set_stand2];rfl
theorem crowd_send_meets_sel{c s:Nat}{v z:Value}{j:Nat}{gj:Goroutine}{shj:CommShape}(hi:gs[i]?=some g)(h:stepG P (i==0) g w=.comm g₂ #[scase c v z] true shape w₁ es)(hc:w₁.heap[c]?=some (.chan 0 #[] false s s false))
 (hij:j≠i)(hj:gs[j]?=some (parked gj cases shj))(hne:partners (gs.setIfInBounds i ph) c false≠[])
 (hall:∀ j' k,(j',k)∈partners (gs.setIfInBounds i ph) c false->j'=j/\∃ zk,cases[k]?=some (rcase c zk)) :
  ∃ (k:Nat) (zk:Value) (d:Nat),cases[k]?=some (rcase c zk) /\
   runT P (crowd gs w sl) i=(.next (crowd ((gs.setIfInBounds j (gj.finishComm P cases shj k v true)).setIfInBounds i (g₂.finishComm P #[scase c v z] shape 0 undef false)) ((w₁.at d).setChan c 0 #[] false (s+1) (s+1) false) sl),
    MemOp.ofEvents i g.frame.fn g.frame.place es++#[{ g:=i,fn:=g₂.frame.fn,pos:=g₂.frame.place,act:=.send c s },{ g:=j,fn:=gj.frame.fn,pos:=gj.frame.place,act:=.recv c s 0 },
     { g:=i,fn:=g₂.frame.fn,pos:=g₂.frame.place,act:=.sendDone c s },{ g:=j,fn:=gj.frame.fn,pos:=gj.frame.place,act:=.recvDone c s }]):=by
 rw[runT_crowd_comm hi h];generalize hps:partners (gs.setIfInBounds i ph) c false=ps at hne hall;have hw:ways w₁ (gs.setIfInBounds i ph) (scase c v z)=ps.map fun (h,k)=>Way.partner h k:=by
  simp only[ways,scase,hc,hps];cases ps<;>simp_all
 have hill : #[scase c v z].any (illMade w₁)=false:=any_ill fun cc hcc=>by
  have:cc=scase c v z:=by simpa using hcc
  rw[this];exact made_send v z hc
 unfold communicate;dsimp only;rw[if_neg (show ¬ _ from fun e=>by have e' : #[scase c v z].any (illMade w₁)=true:=e;rw[hill]at e';cases e')];have hwne:(ps.map fun (h,k)=>Way.partner h k).isEmpty=false:=by cases ps with
  | nil=>exact absurd rfl hne
  | cons p ps=>rfl
 have hready:((#[scase c v z].zipIdx.toList.map fun (c,k)=>(k,c,ways w₁ (gs.setIfInBounds i ph) c)).filter fun (_,_,ws)=>!ws.isEmpty)=[(0,scase c v z,ps.map fun (h,k)=>Way.partner h k)]:=by
  simp[hw,hwne]
 rw[hready]
 obtain ⟨b, d2, hb, hrun2⟩ := U2 (P := P) (q := .extern "which waiting goroutine is the partner" (ps.map fun (h, k) => Way.partner h k).length) (by rw [List.length_map]; exact List.length_pos_iff.2 hne) (.inr ⟨_, rfl⟩) w₁
 obtain⟨⟨j',k⟩,hjk⟩ : ∃ p,ps[b]?=some p:=by
  rw[List.length_map]at hb;exact⟨_,List.getElem?_eq_getElem hb⟩
 obtain⟨rfl,zk,hk⟩:=hall j' k (List.mem_of_getElem? hjk);refine⟨k,zk,d2,hk,?_⟩;have hpick:(do
   let a <- choose (.select [(0,scase c v z,ps.map fun (h,k)=>Way.partner h k)].length);let (k,c,ws):=[(0,scase c v z,ps.map fun (h,k)=>Way.partner h k)].getD a (0,default,[])
   let b <- choose (.extern "which waiting goroutine is the partner" ws.length)
   pure (k,c,ws.getD b .closed):Sem (Nat×CommCase×Way)).run P w₁=.ok (0,scase c v z,.partner j' k) (w₁.at d2):=by
  show (choose _ >>= fun b=>pure (0,scase c v z,(ps.map fun (h,k)=>Way.partner h k).getD b .closed):Sem (Nat×CommCase×Way)).run P w₁=_;rw[hrun2,getD_map_partner _ b (j',k) hjk];rfl
 have hj':=stand_get (i:=i) hij hj;have hfp:=finishPartner_at P (gs.setIfInBounds i ph) hj' (cs:=cases) (sh:=shj) rfl k v;have hgd:(gs.setIfInBounds i ph).getD j' default=parked gj cases shj:=by rw[Array.getD_eq_getD_getElem?,hj'];rfl
 have hcd:(w₁.at d2).heap[c]?=some (.chan 0 #[] false s s false):=hc;have hsn:((cases[k]?).map (·.send.isNone)).getD false=true:=by rw[hk];rfl
 rw[hsn]at hfp;rw[hpick];simp only[List.isEmpty_cons,Bool.false_eq_true,if_false];simp only[scase];simp only[hcd,hfp,hgd,set_stand2];rfl
end
end
section
def baseOf(P:Program)(ds:List Deferred):Frame:={ (default:Frame) with fn:=P.funcs.size,defers:=ds,mode:=.panicking [goexitEntry] }
structure Sends(P:Program)(fr:Frame)(cs:List Frame)(h:LH)(c:Nat)(z v:Value)(φ:Value->Cells->Prop)(s:Script)(hv hr:Cells):Prop where
 at_:AtOp fr
 step:∀ w,stepG P false (G fr cs) w=.comm (G fr cs) #[scase c v z] true .send w #[]
 todo:h.todo=(c,φ)::s
 get:h.get=hv.add hr
 disj:Disj hv hr
 own:∀ r x,hv r=some x->x.1=true
 val:φ v hv
def wstk(P:Program)(kd:CallKind)(cs:List Frame):Prop:=kd=.normal\/(kd=.deferred/\cs=[baseOf P []])
def XW:XP where
 cond P main R:=main=false/\∀ fr cs h c z v φ s hv hr,wstk P fr.kind cs->Sends P fr cs h c z v φ s hv hr->(s=[]->Ends P fr) ->
  (s≠[]->R (G (fr.finish undef) cs) { h with get:=hr,todo:=s })->R (G fr cs) h
 stk:=wstk
variable {P:Program}{fr:Frame}{cs:List Frame}{c:Nat}{z v:Value}{φ:Value->Cells->Prop}{s:Script}{hv hr k:Cells}{g:Goroutine}
theorem Cells.add_assoc(a b c:Cells):(a.add b).add c=a.add (b.add c):=by
 funext r;unfold Cells.add;cases a r<;>rfl
theorem Sends.frame{h:LH}(a:Sends P fr cs h c z v φ s hv hr)(d:Disj h.get k) :
  Sends P fr cs (h.add k) c z v φ s hv (hr.add k) where
 at_:=a.at_
 step:=a.step
 todo:=a.todo
 get:=by show h.get.add k=_;rw[a.get,Cells.add_assoc]
 disj:=by
  have b:=d;rw[a.get]at b;exact(Disj.add a.disj.symm b.of_add_left.symm).symm
 own:=a.own
 val:=a.val
theorem Sends.rest{h:LH}(a:Sends P fr cs h c z v φ s hv hr)(d:Disj h.get k):Disj hr k:=by
 rw[a.get]at d;exact Qx a.disj d
theorem XW_ok:XOK XW where
 frame P main R k _ hc:=by
  refine⟨hc.1,?_⟩;intro fr cs h c z v φ s hv hr b e he f d;exact hc.2 fr cs (h.add k) c z v φ s hv (hr.add k) b (e.frame d) he fun a=>f a (e.rest d)
 stk _ _ _ _ _ _:=.inl rfl
 free _ _ _ _ _:=trivial
abbrev LH.dp(h:LH):Nat:=h.chans.length
def LH.deaf(h:LH)(d:Nat):LH:={ h with chans:=List.replicate d 0 }
inductive Wk(P:Program):Goroutine->LH->Prop
 | step {fr:Frame} {cs:List Frame} {h:LH} {N:Goroutine->LH->Prop}:h.todo≠[]->LStep P false (G fr cs) h N->(∀ g' h',N g' h'->Wk P g' h')->Wk P (G fr cs) h
 | send {fr:Frame} {cs:List Frame} {h:LH} {c:Nat} {z v:Value} {φ:Value->Cells->Prop} {s:Script} {hv hr:Cells}:Sends P fr cs h c z v φ s hv hr->Wk P (G (fr.finish undef) cs) { h with get:=hr,todo:=s }->Wk P (G fr cs) h
 | quit {n:Nat} {g:Goroutine} {h:LH}:h.todo=[]->QuitsD P n h.dp g->Wk P g h
def Waits(P:Program)(g:Goroutine)(h:LH):Prop :=
 ∃ fr cs c z v φ s hv hr,g=parked (G fr cs) #[scase c v z] .send/\Sends P fr cs h c z v φ s hv hr/\Wk P (G (fr.finish undef) cs) { h with get:=hr,todo:=s }
def Wt(P:Program)(g:Goroutine)(h:LH):Prop:=Wk P g h\/Waits P g h
theorem Wk.status{P:Program}{g:Goroutine}{h:LH}(a:Wk P g h):g.status=.running\/g.status=.finished:=by
 cases a with
 | step _ _ _=>exact .inl rfl
 | send _ _=>exact .inl rfl
 | quit _ b=>exact b.status
theorem Wk.up{h:LH}(a:Wk P g h):∀ k,Disj h.get k->Wk P g (h.add k):=by
 induction a with
 | step c b _ e =>
  intro k d;refine .step c (b.frame d) ?_;rintro g' f ⟨h',i,rfl,j⟩;exact e g' h' j k i
 | send b _ e=>intro k d;exact .send (b.frame d) (e k (b.rest d))
 | quit h1 h2=>intro k d;exact .quit h1 h2
theorem results_nil{fd:Func}(h:fd.results=#[])(tmps:Array Value)(P:Program)(w:World):(results fd tmps).runT P w #[]=(.ok (.tuple #[]) w,#[]):=by
 have h1:(results fd tmps).run P w=.ok (.tuple #[]) w:=by simp[results,h]
 have h2:(results fd tmps).events P w #[]=#[]:=by simp[results,h]
 rw[<- Sem.runT_fst _ _ _ #[]]at h1;exact Prod.ext h1 h2
theorem ends_quits(e:Ends P fr):QuitsIn P 4 (G (fr.finish v) [baseOf P []]):=by
 obtain⟨⟨ops,i,h⟩,hm,d,hr,g,fd,f,a⟩:=e;obtain⟨fn,tmps,todo,defers,mode,kind,ro⟩:=fr;simp only at h hm d hr g f;subst h hm d hr g;have c:(P.funcs[P.funcs.size]?)=none:=Array.getElem?_eq_none (Nat.le_refl _);let b:=(Frame.finish { fn:=fn,tmps:=tmps,todo:=[.inRegion ops [i]],defers:=[],mode:=.run,kind:=.deferred } v).tmps;refine .inr ⟨rfl,G { fn:=fn,tmps:=b,todo:=[],defers:=[],mode:=.run,kind:=.deferred } [baseOf P []],fun w=>?_,
  .inr ⟨rfl,G { fn:=fn,tmps:=b,todo:=[],defers:=[],mode:=.returning,kind:=.deferred } [baseOf P []],fun w=>?_,
  .inr ⟨rfl,G (baseOf P []) [],fun w=>?_,.inr ⟨rfl,{ frame:=baseOf P [],callers:=[],status:=.finished,dying:=none },fun w=>?_,rfl⟩⟩⟩⟩
 ·simp[G,stepG,stepG.exec,Frame.finish,b]
 ·simp[G,stepG,stepG.exec]
 ·have h1:(results fd b).run P w=.ok (.tuple #[]) w:=by rw[<- Sem.runT_fst _ _ _ #[],results_nil a]
  have h2:(results fd b).events P w #[]=#[]:=by show ((results fd b).runT P w #[]).2=_;rw[results_nil a]
  simp[G,stepG,unwind,f,h1,h2,GStep.after,doReturn,baseOf,goexitEntry];rfl
 ·simp[G,stepG,unwind,baseOf,Frame.catches,goexitEntry,show (default:Frame).todo=[] from rfl]
theorem wk_closed(P:Program):Closed XW P false fun g h=>h.chans=[]->h.todo≠[]->Wk P g h:=by
 refine⟨⟨?_,?_⟩,rfl,?_⟩
 ·intro fr cs h N i o a b;refine .step (N:=fun g' h'=>N g' h'/\h'.todo=h.todo/\h'.chans=h.chans) b ?_ fun g' h' f=>o g' h' f.1 (by rw[f.2.2];exact a) (by rw[f.2.1];exact b);intro w p;obtain⟨g',w',es,h',h1,h2,h3,m⟩:=i w p;exact⟨g',w',es,h',h1,h2,h3,m,rfl,rfl⟩
 ·intro g h k hw d a b;exact(hw a b).up k d
 ·intro fr cs h c z v φ s hv hr j i he f a b;by_cases e:s=[]
  ·have l:=he e;have q:fr.kind=.deferred:=l.2.2.2.2.1;rcases j with h'|⟨_,rfl⟩
   ·rw[q]at h';cases h'
   ·refine .send i (.quit (n:=4) e ?_);show QuitsD P 4 h.chans.length _;rw[a];exact QuitsD.of_quitsIn (ends_quits l)
  ·exact .send i (f e a e)
def Moves(P:Program)(g:Goroutine)(h:LH)(K:Goroutine->LH->Prop):Prop :=
 (∃ fr cs N,g=G fr cs/\h.todo≠[]/\LStep P false (G fr cs) h N/\∀ g' h',N g' h'->Wk P g' h'/\K g' h') \/
 (∃ fr cs c z v φ s hv hr,g=G fr cs/\Sends P fr cs h c z v φ s hv hr/\Wk P (G (fr.finish undef) cs) { h with get:=hr,todo:=s }/\K (parked (G fr cs) #[scase c v z] .send) h) \/
 (∃ fr cs c z v φ s hv hr,g=parked (G fr cs) #[scase c v z] .send/\Sends P fr cs h c z v φ s hv hr/\Wk P (G (fr.finish undef) cs) { h with get:=hr,todo:=s }) \/
 (h.todo=[]/\g.status=.finished) \/
 (h.todo=[]/\g.status=.running/\∃ n g' es,(∀ e∈es,Event.mute e=true)/\(∀ w,stepG P false g w=.go g' w es)/\QuitsD P n (deafBehind h.dp es) g'/\K g' (h.deaf (deafBehind h.dp es)))
inductive Run1(P:Program):Goroutine->LH->Prop
 | mk (g:Goroutine) (h:LH) (K:Goroutine->LH->Prop):Moves P g h K->(∀ g' h',K g' h'->Run1 P g' h')->Run1 P g h
theorem Ho(h:LH)(d:Nat):(h.deaf d).dp=d:=by simp[LH.deaf,LH.dp]
theorem run1_quit:∀ (n:Nat) (g:Goroutine) (h:LH),h.todo=[]->QuitsD P n h.dp g->Run1 P g h:=by
 intro n
 induction n with
 | zero=>intro g h h0 c;exact .mk g h (fun _ _=>False) (.inr (.inr (.inr (.inl ⟨h0,c.1⟩)))) fun _ _ e=>e.elim
 | succ n j =>
  intro g h h0 c;rcases c with c|⟨hr,g',es,hm,hw,d⟩
  ·exact .mk g h (fun _ _=>False) (.inr (.inr (.inr (.inl ⟨h0,c.1⟩)))) fun _ _ e=>e.elim
  ·refine .mk g h (fun a b=>a=g'/\b=h.deaf (deafBehind h.dp es)) (.inr (.inr (.inr (.inr ⟨h0,hr,n,g',es,hm,hw,d,rfl,rfl⟩)))) ?_;rintro a b ⟨f,i⟩;rw[f,i];exact j g' _ h0 (by rw[Ho];exact d)
theorem Wt.run1{h:LH}(a:Wt P g h):Run1 P g h:=by
 have wait:∀ {fr:Frame} {cs:List Frame} {h:LH} {c:Nat} {z v:Value} {φ:Value->Cells->Prop} {s:Script} {hv hr:Cells},Sends P fr cs h c z v φ s hv hr->Wk P (G (fr.finish undef) cs) { h with get:=hr,todo:=s } ->
   Run1 P (parked (G fr cs) #[scase c v z] .send) h:=by
  intro fr cs h c z v φ s hv hr d hw;exact .mk _ h (fun _ _=>False) (.inr (.inr (.inl ⟨fr,cs,c,z,v,φ,s,hv,hr,rfl,d,hw⟩))) fun _ _ e=>e.elim
 rcases a with a|⟨fr,cs,c,z,v,φ,s,hv,hr,rfl,d,hw⟩
 ·induction a with
  | @step fr cs h N f d e j=>exact .mk _ h N (.inl ⟨fr,cs,N,rfl,f,d,fun g' h' i=>⟨e g' h' i,i⟩⟩) j
  | @send fr cs h c z v φ s hv hr d hw _ =>
   refine .mk _ h (fun a b=>a=parked (G fr cs) #[scase c v z] .send/\b=h) (.inr (.inl ⟨fr,cs,c,z,v,φ,s,hv,hr,rfl,d,hw,rfl,rfl⟩)) ?_;rintro _ _ ⟨rfl,rfl⟩;exact wait d hw
  | quit h1 h2=>exact run1_quit _ _ _ h1 h2
 ·exact wait d hw
inductive Sys(P:Program):List (Goroutine×LH)->Prop
 | mk (l:List (Goroutine×LH)) (K:Nat->Goroutine->LH->Prop):(∀ i g h,l[i]?=some (g,h)->Moves P g h (K i))->(∀ i g' h',i<l.length->K i g' h'->Sys P (l.set i (g',h')))->Sys P l
theorem Sys.cons{P:Program}{g:Goroutine}{h:LH}(a:Run1 P g h):∀ l,Sys P l->Sys P ((g,h)::l):=by
 induction a with
 | mk g h K hm n m =>
  intro l k
  induction k with
  | mk l f c d e =>
   refine .mk _ (fun i=>match i with|0=>K|i+1=>f i) ?_ ?_
   ·intro i g' h' b;cases i with
    | zero=>simp at b;obtain⟨rfl,rfl⟩:=b;exact hm
    | succ i=>exact c i g' h' (by simpa using b)
   ·intro i g' h' b j;cases i with
    | zero=>exact m g' h' j l (.mk l f c d)
    | succ i=>exact e i g' h' (by simpa using b) j
theorem Sys.all{P:Program}:∀ (l:List (Goroutine×LH)),(∀ x∈l,Wt P x.1 x.2)->Sys P l
 | [],_=>.mk [] (fun _ _ _=>False) (fun i g h a=>by simp at a) (fun i g' h' a=>by simp at a)
 | x::l,h=>Sys.cons (h x (by simp)).run1 l (Sys.all l fun y b=>h y (by simp[b]))
end
section
abbrev holdsC(chans:List Nat)(cs:Nat->Cells)(j:Nat)(k:Key):Option Bool:=if j=0/\k.1∈chans then some true else (cs j k.1).map (·.1)
structure Mem(sy:Sy)(n0:Nat)(w0:World)(chans:List Nat)(cs:Nat->Cells)(ng:Nat)(gone:Nat->Prop)(w:World)(t:Trace):Prop where
 fits:∀ j,Fits (cs j) w
 whole:∀ j r b o,cs j r=some (b,o)->∀ i,¬ isHole o i
 dp0:∀ g,g≠0->sy.dp g=0
 ti:TI sy t w.heap.size ng (holdsC chans cs) gone
 chan:∀ c∈chans,∃ s,w.heap[c]?=some (.chan 0 #[] false s s false)
 free:∀ c∈chans,∀ j,cs j c=none
 out:∀ j,ng<=j->∀ r,cs j r=none
 pos:0<ng
 base:∀ r,r<n0->w.heap[r]?=w0.heap[r]?
 low:∀ j k,holdsC chans cs j k=some true->n0<=k.1
 size:n0<=w.heap.size
 os:w.os=w0.os
 tape:w.tape=w0.tape
 output:w.output=w0.output
variable {sy:Sy} {n0:Nat} {w0:World} {chans:List Nat} {cs:Nat->Cells} {ng:Nat} {gone:Nat->Prop} {w:World} {t:Trace}
variable {j r i:Nat}
theorem J0{q:Option Nat}{x:Bool×Obj}(hc:∀ c∈chans,∀ j,cs j c=none)(h:cs j r=some x):holdsC chans cs j (r,q)=some x.1:=by
 unfold holdsC;rw[if_neg]
 ·rw[h];rfl
 ·rintro⟨_,hr⟩;rw[hc r hr j]at h;cases h
theorem Mem.at(m:Mem sy n0 w0 chans cs ng gone w t)(d:Nat):Mem sy n0 w0 chans cs ng gone (w.at d) t :=
 ⟨m.fits,m.whole,m.dp0,m.ti,m.chan,m.free,m.out,m.pos,m.base,m.low,m.size,m.os,m.tape,m.output⟩
theorem Mem.apart(m:Mem sy n0 w0 chans cs ng gone w t){o:Obj}(a:i≠j)(h:cs i r=some (true,o)):cs j r=none:=by
 have h1:=m.ti.excl i j (r,none) a (J0 m.free h);cases b:cs j r with
 | none=>rfl
 | some x=>rw[J0 m.free b]at h1;cases h1
def EvS(h:Cells)(n n':Nat)(e:Event):Prop:=EvOk h n n' { e with sync:=false }
theorem EvOk.toS{h:Cells}{n a:Nat}{e:Event}(he:EvOk h n a e):EvS h n a e:=by
 unfold EvS;unfold EvOk at he ⊢;simp only;split at he
 ·exact⟨trivial,he.2⟩
 ·exact he
 ·exact he
 ·exact he.elim
theorem Mem.stepS(m:Mem sy n0 w0 chans cs ng gone w t)(G:j<ng)(E:¬ gone j){h':Cells}{w':World}{es:Array Event}(fn:FuncId)(pos:String)
 (f:Tr (cs j) w h' w')(C:∀ e∈es,EvS (cs j) w.heap.size w'.heap.size e) :
  Mem sy n0 w0 chans (fun i=>if i=j then h' else cs i) ng gone w' (t++MemOp.ofEvents j fn pos es):=by
 have hold:holdsC chans (fun i=>if i=j then h' else cs i)=fun i=>if i=j then (fun k=>if j=0/\k.1∈chans then some true else (h' k.1).map (·.1)) else holdsC chans cs i:=by
  funext i k;by_cases e:i=j
  ·subst e;simp[holdsC]
  ·simp[holdsC,e]
 have H:∀ r,h' r=none->cs j r=none:=by
  intro r hr;cases hc:cs j r with
  | none=>rfl
  | some y=>obtain⟨x,d,_⟩:=f.keep r y hc;rw[hr]at d;cases d
 have u:∀ c∈chans,h' c=none:=by
  intro c hc;cases d:h' c with
  | none=>rfl
  | some x =>
   rcases f.new c x d with⟨y,n,_,_⟩|⟨h,_,_⟩
   ·rw[m.free c hc j]at n;cases n
   ·obtain⟨s,A⟩:=m.chan c hc;exact absurd (Array.getElem?_eq_some_iff.1 A).1 (Nat.not_lt.2 h)
 refine⟨?_,?_,m.dp0,?_,?_,?_,?_,m.pos,?_,?_,Nat.le_trans m.size f.size,f.os.trans m.os,f.tape.trans m.tape,f.output.trans m.output⟩
 ·intro i;by_cases e:i=j
  ·simp only[e,if_true];exact f.fits
  ·simp only[e,if_false];intro r b o hr;have hw:=m.fits i r b o hr;rw[f.other r (Fits.lt (m.fits i) hr) ?_];exact hw;rintro⟨o',F⟩;rw[m.apart (fun B=>e B.symm) F]at hr;cases hr
 ·intro i r b o hr;by_cases e:i=j
  ·simp only[e,if_true]at hr;rcases f.new r _ hr with⟨⟨I,o'⟩,n,_,D⟩|⟨_,_,D⟩
   ·exact fun i v=>m.whole j r I o' n i ((D i).2 v)
   ·exact D
  ·simp only[e,if_false]at hr;exact m.whole i r b o hr
 ·rw[hold];refine m.ti.step G E f.size ?_ ?_
  ·intro e he;have g:=C e he;have key:∀ (r:Nat) (q:Option Nat) (p:Obj->Prop),((w.heap.size<=r/\r<w'.heap.size)\/∃ x,cs j r=some x/\(e.write=true->x.1=true)/\p x.2)->r<w'.heap.size/\(w.heap.size<=r\/∃ b,holdsC chans cs j (r,q)=some b/\(e.write=true->b=true)):=by
    rintro r q p (⟨h1,h2⟩|⟨x,d,hw,_⟩)
    ·exact⟨h2,.inl h1⟩
    ·exact⟨Nat.lt_of_lt_of_le (Fits.lt (m.fits j) d) f.size,.inr ⟨x.1,J0 m.free d,hw⟩⟩
   unfold EvS EvOk at g;simp only at g;split at g
   ·rename_i a l;refine⟨fun mk hm=>(by rw[l]at hm;cases hm),fun r hr=>?_⟩;rw[l]at hr;cases hr;exact key _ _ (fun o=>¬ isHole o a.off) g.2
   ·rename_i J l;refine⟨fun mk hm=>(by rw[l]at hm;cases hm),fun r hr=>?_⟩;rw[l]at hr;cases hr;exact key _ _ (fun o=>∀ i,¬ isHole o i) g
   ·rename_i mk l;refine⟨fun mk' hm=>(by rw[l]at hm;cases hm;exact g),fun r hr=>?_⟩;rw[l]at hr;cases hr
   ·exact g.elim
  ·rintro⟨r,q⟩ b hb;by_cases hc:j=0/\r∈chans
   ·rw[if_pos hc]at hb;exact .inl (by unfold holdsC;rw[if_pos hc];exact hb)
   ·rw[if_neg hc]at hb;cases d:h' r with
    | none=>rw[d]at hb;cases hb
    | some x =>
     rw[d]at hb;simp at hb;rcases f.new r x d with⟨y,n,e,_⟩|⟨h,_,_⟩
     ·left;rw[J0 m.free n,e,hb]
     ·exact .inr ⟨h,Fits.lt f.fits d⟩
 ·intro c hc;obtain⟨s,A⟩:=m.chan c hc;refine⟨s,?_⟩;rw[f.other c (Array.getElem?_eq_some_iff.1 A).1 ?_];exact A;rintro⟨o,z⟩;rw[m.free c hc j]at z;cases z
 ·intro c hc i;by_cases e:i=j
  ·simp only[e,if_true];exact u c hc
  ·simp only[e,if_false];exact m.free c hc i
 ·intro i v r;have:i≠j:=fun e=>by subst e;exact absurd G (Nat.not_lt.2 v)
  simp only[this,if_false];exact m.out i v r
 ·intro r hr;rw[f.other r (Nat.lt_of_lt_of_le hr m.size) ?_]
  ·exact m.base r hr
  ·rintro⟨o,z⟩;exact absurd (m.low j (r,none) (J0 m.free z)) (Nat.not_le.2 hr)
 ·rintro i ⟨r,q⟩ hr;rw[hold]at hr;by_cases e:i=j
  ·simp only[e,if_true]at hr;by_cases hc:j=0/\r∈chans
   ·exact m.low j (r,q) (by unfold holdsC;rw[if_pos hc])
   ·rw[if_neg hc]at hr;cases d:h' r with
    | none=>rw[d]at hr;cases hr
    | some x =>
     rw[d]at hr;simp at hr;rcases f.new r x d with⟨y,n,B,_⟩|⟨h,_,_⟩
     ·exact m.low j (r,q) (by rw[J0 m.free n,B,hr])
     ·exact Nat.le_trans m.size h
  ·simp only[e,if_false]at hr;exact m.low i (r,q) hr
theorem Mem.step(m:Mem sy n0 w0 chans cs ng gone w t){j:Nat}(c:j<ng)(b:¬ gone j){h':Cells}{w':World}{es:Array Event}(fn:FuncId)(pos:String)
 (d:Tr (cs j) w h' w')(a:∀ e∈es,EvOk (cs j) w.heap.size w'.heap.size e) :
  Mem sy n0 w0 chans (fun i=>if i=j then h' else cs i) ng gone w' (t++MemOp.ofEvents j fn pos es):=m.stepS c b fn pos d fun e he=>(a e he).toS
def freezeC(F:Nat->Bool)(h:Cells):Cells:=fun r=>match h r with
 | some (m,o)=>some (m&&!F r,o)
 | none=>none
theorem Uj{t u:Trace}{x:MemOp}(a:(t++u)[t.size+i]?=some x)(hu:∀ op∈u,∀ m,op.act≠.mark m)(c:Deaf t x.g=0):(t++u).heard (t.size+i):=by
 refine⟨x.g,by simp[Trace.g?,a],?_⟩;have key:∀ n,n<=u.size->(t++u).deaf x.g (t.size+n)=0:=by
  intro n
  induction n with
  | zero=>intro _;rw[Nat.add_zero,deaf_old (Nat.le_refl _)];exact c
  | succ n d =>
   intro f;obtain⟨z,b⟩ : ∃ z,(t++u)[t.size+n]?=some z:=⟨_,Array.getElem?_eq_getElem (by simp;omega)⟩
   have hm:z∈u:=by
    rcases getElem?_append_cases b with⟨h',_⟩|⟨_,h'⟩
    ·omega
    ·exact h'
   rw[<- Nat.add_assoc,deaf_succ b,d (by omega)];unfold deafStep;split
   ·rename_i e;exact absurd e (hu z hm _)
   ·rename_i e;exact absurd e (hu z hm _)
   ·rfl
 refine key i ?_;have:=lt_size_of_getElem? a;simp at this;omega
theorem Knows.spawn{t:Trace}{p:Nat}{x y:MemOp}(h:Knows t p x.g)(b:x.act=.go y.g)(c:y.act=.start)(d0:Deaf t x.g=0)(d1:Deaf t y.g=0):Knows (t++#[x,y]) p y.g:=by
 have h1:(t++#[x,y])[t.size+0]?=some x:=by simp
 have h2:(t++#[x,y])[t.size+1]?=some y:=by simp
 have hu:∀ op∈(#[x,y]:Trace),∀ m,op.act≠.mark m:=by
  intro op a m;simp only[List.mem_toArray,List.mem_cons,List.not_mem_nil,or_false]at a;rcases a with rfl|rfl
  ·rw[b];exact nofun
  ·rw[c];exact nofun
 exact⟨t.size+1,y,h2,rfl,.inr (.tail (h.new h1 (Nat.le_refl _)) (.inr ⟨.spawn (child:=y.g) (by simp[Trace.act?,b]) (by simp[Trace.act?,c]) (by simp[Trace.g?]),Uj h1 hu d0,Uj h2 hu d1⟩))⟩
theorem Mem.spawn(m:Mem sy n0 w0 chans cs ng gone w t)(F:Nat->Bool){hc:Cells}(u:∀ r x,hc r=some x->x.1=false/\freezeC F (cs 0) r=some x){x y:MemOp}(H:x.g=0/\x.act=.go ng)(D:y.g=ng/\y.act=.start)
 (d0:sy.dp 0=0){gone':Nat->Prop}(Q:∀ i,gone' i->gone i)(K:∀ i,gone i->gone' i)(N:¬ gone 0)(O:¬ gone ng) :
  Mem sy n0 w0 chans (fun i=>if i=ng then hc else if i=0 then freezeC F (cs 0) else cs i) (ng+1) gone' w (t++#[x,y]):=by
 have hp:0≠ng:=Nat.ne_of_lt m.pos;have A:∀ r z,freezeC F (cs 0) r=some z->∃ b,cs 0 r=some (b,z.2)/\(z.1=true->b=true):=by
  intro r z n;unfold freezeC at n;split at n
  ·rename_i b o he;cases n;exact⟨b,he,fun hb=>by simp only[Bool.and_eq_true]at hb;exact hb.1⟩
  ·cases n
 have J:∀ r,cs 0 r=none->freezeC F (cs 0) r=none:=by intro r hr;unfold freezeC;rw[hr]
 have hold:∀ i (k:Key) b,holdsC chans (fun i=>if i=ng then hc else if i=0 then freezeC F (cs 0) else cs i) i k=some b ->
   (i=ng/\b=false/\∃ a,cs 0 k.1=some a)\/(i≠ng/\∃ a,holdsC chans cs i k=some a/\(b=true->a=true)):=by
  rintro i ⟨r,q⟩ b hb;by_cases e:i=ng
  ·left;unfold holdsC at hb;simp only[e,if_true,show ¬ (ng=0) from fun h=>hp h.symm,false_and,if_false]at hb;cases l:hc r with
   | none=>rw[l]at hb;cases hb
   | some z =>
    rw[l]at hb;simp at hb;obtain⟨h1,h2⟩:=u r z l;obtain⟨a,h3,_⟩:=A r z h2;exact⟨e,by rw[<- hb];exact h1,_,h3⟩
  ·right;refine⟨e,?_⟩;unfold holdsC at hb ⊢;by_cases s:i=0/\r∈chans
   ·rw[if_pos s]at hb ⊢;exact⟨b,hb,id⟩
   ·rw[if_neg s]at hb ⊢;simp only[e,if_false]at hb;by_cases f:i=0
    ·simp only[f,if_true]at hb;cases n:freezeC F (cs 0) r with
     | none=>rw[n]at hb;cases hb
     | some z =>
      rw[n]at hb;simp at hb;obtain⟨a,h3,P⟩:=A r z n;exact⟨a,by rw[f,h3];rfl,fun h=>P (hb.trans h)⟩
    ·simp only[f,if_false]at hb;exact⟨b,hb,id⟩
 have v:∀ i (k:Key),holdsC chans (fun i=>if i=ng then hc else if i=0 then freezeC F (cs 0) else cs i) i k=some true->i≠ng/\holdsC chans cs i k=some true:=by
  intro i k hb;rcases hold i k true hb with⟨_,h,_⟩|⟨h,a,h1,h2⟩
  ·cases h
  ·cases h2 rfl;exact⟨h,h1⟩
 have R:∀ p,Knows t p 0->Knows (t++#[x,y]) p ng:=by
  intro p h;have:=Knows.spawn (x:=x) (y:=y) (by rw[H.1];exact h) (by rw[H.2,D.1]) D.2 (by rw[H.1,m.ti.hears 0 N,d0]) (by rw[D.1,m.ti.hears ng O,m.dp0 ng (fun e=>hp e.symm)]);rw[D.1]at this;exact this
 refine⟨?_,?_,m.dp0,?_,m.chan,?_,?_,Nat.succ_pos _,m.base,?_,m.size,m.os,m.tape,m.output⟩
 ·intro i r b o hr;by_cases e:i=ng
  ·simp only[e,if_true]at hr;obtain⟨a,h3,_⟩:=A r _ (u r _ hr).2;exact m.fits 0 r _ _ h3
  ·simp only[e,if_false]at hr;by_cases f:i=0
   ·simp only[f,if_true]at hr;obtain⟨a,h3,_⟩:=A r _ hr;exact m.fits 0 r _ _ h3
   ·simp only[f,if_false]at hr;exact m.fits i r b o hr
 ·intro i r b o hr;by_cases e:i=ng
  ·simp only[e,if_true]at hr;obtain⟨a,h3,_⟩:=A r _ (u r _ hr).2;exact m.whole 0 r _ _ h3
  ·simp only[e,if_false]at hr;by_cases f:i=0
   ·simp only[f,if_true]at hr;obtain⟨a,h3,_⟩:=A r _ hr;exact m.whole 0 r _ _ h3
   ·simp only[f,if_false]at hr;exact m.whole i r b o hr
 ·refine m.ti.deal ?_ (Nat.le_succ _) K ?_ ?_ ?_ ?_ ?_
  ·intro op G;simp only[List.mem_toArray,List.mem_cons,List.not_mem_nil,or_false]at G;rcases G with rfl|rfl
   ·rw[H.2];exact⟨rfl,(fun mk h=>by cases h),(by rw[H.1];exact Nat.succ_pos _)⟩
   ·rw[D.2];exact⟨rfl,(fun mk h=>by cases h),(by rw[D.1];exact Nat.lt_succ_self _)⟩
  ·intro i k b hb;rcases hold i k b hb with⟨_,_,a,h⟩|⟨_,a,h,_⟩
   ·exact m.ti.held 0 k _ (J0 m.free h)
   ·exact m.ti.held i k a h
  ·rintro i j ⟨r,q⟩ L d;obtain⟨C,hb⟩:=v i (r,q) d;cases E:holdsC chans (fun i=>if i=ng then hc else if i=0 then freezeC F (cs 0) else cs i) j (r,q) with
   | none=>rfl
   | some b =>
    exfalso;by_cases e:j=ng
    ·-- S child
     subst e;have l:∃ z,hc r=some z:=by
      unfold holdsC at E;simp only[show ¬ (j=0) from fun h=>hp h.symm,false_and,if_false,if_true]at E;cases l:hc r with
      | none=>rw[l]at E;cases E
      | some z=>exact⟨z,rfl⟩
     obtain⟨z,n⟩:=l;obtain⟨U,M⟩:=u r z n;obtain⟨a,h3,_⟩:=A r z M;by_cases f:i=0
     ·subst f;rcases hold 0 (r,q) true d with⟨h,_⟩|⟨_,_⟩
      ·exact hp h
      ·unfold holdsC at d;by_cases s:(0=0/\r∈chans)
       ·rw[m.free r s.2 0]at h3;cases h3
       ·rw[if_neg s]at d;simp only[hp,if_false,if_true]at d;rw[M]at d;simp at d;rw[U]at d;cases d
     ·have:=m.ti.excl i 0 (r,q) f hb;rw[J0 m.free h3]at this;cases this
    ·rcases hold j (r,q) b E with⟨h,_⟩|⟨_,a,h,_⟩
     ·exact e h
     ·rw[m.ti.excl i j (r,q) L hb]at h;cases h
  ·intro i r hb p b I;obtain⟨_,hb⟩:=v i r hb;exact(m.ti.own i r hb p b I).append
  ·intro i r b hb p I;rcases hold i r b hb with⟨e,_,a,h⟩|⟨_,a,h,_⟩
   ·rw[e];exact R p (m.ti.shared 0 r _ (J0 m.free h) p I)
   ·exact(m.ti.shared i r a h p I).append
  ·intro i C p op h1 h2 h3;exact(m.ti.handed i (Q i C) p op h1 h2 h3).append
 ·intro c B i;by_cases e:i=ng
  ·simp only[e,if_true];cases n:hc c with
   | none=>rfl
   | some z =>
    obtain⟨a,h3,_⟩:=A c z (u c z n).2;rw[m.free c B 0]at h3;cases h3
  ·simp only[e,if_false];by_cases f:i=0
   ·simp only[f,if_true];exact J c (m.free c B 0)
   ·simp only[f,if_false];exact m.free c B i
 ·intro i C r;have e:i≠ng:=fun e=>by subst e;exact absurd C (Nat.not_le.2 (Nat.lt_succ_self _))
  have f:i≠0:=fun e=>by subst e;exact absurd C (Nat.not_le.2 (Nat.succ_pos _))
  simp only[e,f,if_false];exact m.out i (Nat.le_of_succ_le C) r
 ·intro i r hb;exact m.low i r (v i r hb).2
theorem Mem.pass(m:Mem sy n0 w0 chans cs ng gone w t)(hj:j<ng)(P:j≠0)(d0:sy.dp 0=0){c s d:Nat}(hc:c∈chans)(hs:w.heap[c]?=some (.chan 0 #[] false s s false)){hv hr:Cells}(M:cs j=hv.add hr)(hd:Disj hv hr)
 (N:∀ r x,hv r=some x->x.1=true){a b e f:MemOp}(V:a.g=j/\a.act=.send c s)(hb:b.g<ng/\b.act=.recv c s 0)(he:e.g<ng/\e.act=.sendDone c s)(W:f.g=0/\f.act=.recvDone c s)
 {gone':Nat->Prop}(hg:∀ i,gone' i->i=j\/gone i)(k0:∀ i,gone i->gone' i)(g0:¬ gone 0)(gj:¬ gone j) :
  Disj (cs 0) hv/\Mem sy n0 w0 chans (fun i=>if i=j then hr else if i=0 then (cs 0).add hv else cs i) ng gone' ((w.at d).setChan c 0 #[] false (s+1) (s+1) false) (t++#[a,b,e,f]):=by
 have C:∀ r x,hv r=some x->cs j r=some x:=fun r x h=>by rw[M];exact Qi h
 have K:∀ r x,hr r=some x->cs j r=some x:=fun r x h=>by rw[M];exact Q3 hd h
 have Y:Disj (cs 0) hv:=by
  intro r;cases h:hv r with
  | none=>exact .inr rfl
  | some x =>
   left;obtain⟨b,o⟩:=x;cases N r _ h;exact m.apart P (C r _ h)
 refine⟨Y,?_⟩;have a0:((w.at d).setChan c 0 #[] false (s+1) (s+1) false).heap.size=w.heap.size:=by simp[World.setChan,World.at]
 have l0:c<w.heap.size:=(Array.getElem?_eq_some_iff.1 hs).1;have B:∀ r,r≠c->((w.at d).setChan c 0 #[] false (s+1) (s+1) false).heap[r]?=w.heap[r]?:=by
  intro r hr;unfold World.setChan;simp only[Array.getElem?_setIfInBounds_ne (Ne.symm hr)];rfl
 have A:∀ k:Cells,(∀ r x,k r=some x->∃ i,cs i r=some x)->Fits k ((w.at d).setChan c 0 #[] false (s+1) (s+1) false):=by
  intro k hk r b o hr;obtain⟨i,H⟩:=hk r _ hr;have Q:r≠c:=by rintro rfl;rw[m.free r hc i]at H;cases H
  rw[B r Q];exact m.fits i r b o H
 have hold:∀ i (k:Key) b,holdsC chans (fun i=>if i=j then hr else if i=0 then (cs 0).add hv else cs i) i k=some b ->
   (i=0/\(∃ x,hv k.1=some x)/\holdsC chans cs j k=some b)\/((hv k.1=none\/k.1∈chans)/\holdsC chans cs i k=some b)\/(i≠0/\i≠j/\holdsC chans cs i k=some b):=by
  rintro i ⟨r,q⟩ b h;by_cases y:i=j
  ·subst y;right;left;unfold holdsC at h;simp only[P,false_and,if_false,if_true]at h;cases v:hr r with
   | none=>rw[v]at h;cases h
   | some x =>
    rw[v]at h;simp at h;refine⟨.inl ?_,by rw[J0 m.free (K r x v),h]⟩;rcases hd r with h'|h'
    ·exact h'
    ·rw[v]at h';cases h'
  ·by_cases l:i=0
   ·subst l;by_cases F:r∈chans
    ·right;left;refine⟨.inr F,?_⟩;unfold holdsC at h ⊢;rw[if_pos ⟨rfl,F⟩]at h ⊢;exact h
    ·unfold holdsC at h;simp only[F,and_false,if_false,y,if_true]at h;cases v:(cs 0).add hv r with
     | none=>rw[v]at h;cases h
     | some x =>
      rw[v]at h;simp at h;rcases J4 v with h0|⟨_,h1⟩
      ·right;left;refine⟨.inl ?_,by rw[J0 m.free h0,h]⟩;rcases Y r with h'|h'
       ·rw[h0]at h';cases h'
       ·exact h'
      ·exact .inl ⟨rfl,⟨x,h1⟩,by rw[J0 m.free (C r x h1),h]⟩
   ·right;right;refine⟨l,y,?_⟩;unfold holdsC at h ⊢;simp only[l,y,false_and,if_false]at h ⊢;exact h
 have kn:∀ p,Knows t p j->Knows (t++#[a,b,e,f]) p 0:=by
  intro p h;have h1:(t++#[a,b,e,f])[t.size+0]?=some a:=by simp
  have h4:(t++#[a,b,e,f])[t.size+3]?=some f:=by simp
  have hu:∀ op∈(#[a,b,e,f]:Trace),∀ m,op.act≠.mark m:=by
   intro op J m;simp only[List.mem_toArray,List.mem_cons,List.not_mem_nil,or_false]at J;rcases J with rfl|rfl|rfl|rfl
   ·rw[V.2];exact nofun
   ·rw[hb.2];exact nofun
   ·rw[he.2];exact nofun
   ·rw[W.2];exact nofun
  rw[<- V.1]at h;exact⟨t.size+3,f,h4,W.1,.inr (.tail (h.new h1 (Nat.le_refl _)) (.inr ⟨.handOver (c:=c) (k:=s) (by simp[Trace.act?,V.2]) (by simp[Trace.act?,W.2]),
   Uj h1 hu (by rw[V.1,m.ti.hears j gj,m.dp0 j P]),Uj h4 hu (by rw[W.1,m.ti.hears 0 g0,d0])⟩))⟩
 have o0:∀ r q x,hv r=some x->holdsC chans cs j (r,q)=some true:=fun r q x h=>by
  rw[J0 m.free (C r x h),N r x h]
 refine⟨?_,?_,m.dp0,?_,?_,?_,?_,m.pos,?_,?_,by rw[a0];exact m.size,m.os,m.tape,m.output⟩
 ·intro i;by_cases y:i=j
  ·simp only[y,if_true];exact A hr fun r x h=>⟨j,K r x h⟩
  ·simp only[y,if_false];by_cases l:i=0
   ·simp only[l,if_true];refine A _ fun r x h=>?_;rcases J4 h with h|⟨_,h⟩
    ·exact⟨0,h⟩
    ·exact⟨j,C r x h⟩
   ·simp only[l,if_false];exact A _ fun r x h=>⟨i,h⟩
 ·intro i r b o h;by_cases y:i=j
  ·simp only[y,if_true]at h;exact m.whole j r b o (K r _ h)
  ·simp only[y,if_false]at h;by_cases l:i=0
   ·simp only[l,if_true]at h;rcases J4 h with h|⟨_,h⟩
    ·exact m.whole 0 r b o h
    ·exact m.whole j r b o (C r _ h)
   ·simp only[l,if_false]at h;exact m.whole i r b o h
 ·rw[a0];refine m.ti.deal ?_ (Nat.le_refl _) k0 ?_ ?_ ?_ ?_ ?_
  ·intro op J;simp only[List.mem_toArray,List.mem_cons,List.not_mem_nil,or_false]at J;rcases J with rfl|rfl|rfl|rfl
   ·rw[V.2];exact⟨rfl,(fun mk h=>by cases h),(by rw[V.1];exact hj)⟩
   ·rw[hb.2];exact⟨rfl,(fun mk h=>by cases h),hb.1⟩
   ·rw[he.2];exact⟨rfl,(fun mk h=>by cases h),he.1⟩
   ·rw[W.2];exact⟨rfl,(fun mk h=>by cases h),(by rw[W.1];exact m.pos)⟩
  ·intro i r D h;rcases hold i r D h with⟨_,_,h⟩|⟨_,h⟩|⟨_,_,h⟩<;>exact m.ti.held _ r D h
  ·rintro i S ⟨r,q⟩ I h;cases h':holdsC chans (fun i=>if i=j then hr else if i=0 then (cs 0).add hv else cs i) S (r,q) with
   | none=>rfl
   | some D =>
    exfalso
    -- who held it before
    have w1:=hold i (r,q) true h;have w2:=hold S (r,q) D h';have clash:∀ u L,u≠L->holdsC chans cs u (r,q)=some true->holdsC chans cs L (r,q)=some D->False:=by
     intro u L hu h1 h2;rw[m.ti.excl u L (r,q) hu h1]at h2;cases h2
    have j0:∀ u L z,u≠L->holdsC chans cs L (r,q)=some true->holdsC chans cs u (r,q)=some z->False:=by
     intro u L z hu h1 h2;rw[m.ti.excl L u (r,q) (Ne.symm hu) h1]at h2;cases h2
    have G:∀ x,hv r=some x->r∈chans->False:=by
     intro x v F;have:=C r x v;rw[m.free r F j]at this;cases this
    rcases w1 with⟨l,⟨x,v⟩,h1⟩|⟨X,h1⟩|⟨p0,nj,h1⟩
    ·rcases w2 with⟨O,_,_⟩|⟨n,h2⟩|⟨_,U,h2⟩
     ·exact I (l.trans O.symm)
     ·rcases n with n|n
      ·rw[v]at n;cases n
      ·exact G x v n
     ·exact clash j S (Ne.symm U) h1 h2
    ·rcases w2 with⟨O,⟨x,v⟩,h2⟩|⟨n,h2⟩|⟨_,U,h2⟩
     ·rcases X with X|X
      ·rw[v]at X;cases X
      ·exact G x v X
     ·exact clash i S I h1 h2
     ·exact clash i S I h1 h2
    ·rcases w2 with⟨O,⟨x,v⟩,h2⟩|⟨n,h2⟩|⟨_,U,h2⟩
     ·exact clash i j nj h1 h2
     ·exact clash i S I h1 h2
     ·exact clash i S I h1 h2
  ·intro i r h p D R;rcases hold i r true h with⟨l,_,h1⟩|⟨_,h1⟩|⟨_,_,h1⟩
   ·rw[l];exact kn p (m.ti.own j r h1 p D R)
   ·exact(m.ti.own i r h1 p D R).append
   ·exact(m.ti.own i r h1 p D R).append
  ·intro i r D h p R;rcases hold i r D h with⟨l,_,h1⟩|⟨_,h1⟩|⟨_,_,h1⟩
   ·rw[l];exact kn p (m.ti.shared j r D h1 p R)
   ·exact(m.ti.shared i r D h1 p R).append
   ·exact(m.ti.shared i r D h1 p R).append
  ·intro i H p op h1 h2 h3;rcases hg i H with rfl|H
   ·rw[<- h2]at kn;exact kn p (Knows.self h1)
   ·exact(m.ti.handed i H p op h1 h2 h3).append
 ·intro c' E;by_cases e:c'=c
  ·subst e;refine⟨s+1,?_⟩;simp[World.setChan,World.at,l0]
  ·obtain⟨s',m0⟩:=m.chan c' E;exact⟨s',by rw[B c' e];exact m0⟩
 ·intro c' E i;by_cases y:i=j
  ·simp only[y,if_true];cases h:hr c' with
   | none=>rfl
   | some x=>have:=K c' x h;rw[m.free c' E j]at this;cases this
  ·simp only[y,if_false];by_cases l:i=0
   ·simp only[l,if_true];rw[Qk (m.free c' E 0)];cases h:hv c' with
    | none=>rfl
    | some x=>have:=C c' x h;rw[m.free c' E j]at this;cases this
   ·simp only[l,if_false];exact m.free c' E i
 ·intro i H r;have y:i≠j:=fun e=>by subst e;exact absurd hj (Nat.not_lt.2 H)
  have l:i≠0:=fun e=>by subst e;exact absurd m.pos (Nat.not_lt.2 H)
  simp only[y,l,if_false];exact m.out i H r
 ·intro r Z;have Q:r≠c:=by
   rintro rfl;have:=m.low 0 (r,none) (by unfold holdsC;rw[if_pos ⟨rfl,hc⟩]);exact absurd this (Nat.not_le.2 Z)
  rw[B r Q];exact m.base r Z
 ·intro i r h;rcases hold i r true h with⟨_,_,h1⟩|⟨_,h1⟩|⟨_,_,h1⟩<;>exact m.low _ r h1
theorem Mem.turn(m:Mem sy n0 w0 chans cs ng gone w t){chans':List Nat}{k:Cells}(q:Fits k w)(n:∀ r b o,k r=some (b,o)->∀ i,¬ isHole o i)
 (u:∀ r b,holdsC chans' (fun i=>if i=0 then k else cs i) 0 r=some b->∃ f,holdsC chans cs 0 r=some f/\(b=true->f=true))
 (g:∀ c∈chans',k c=none/\(∀ i,i≠0->cs i c=none)/\∃ s,w.heap[c]?=some (.chan 0 #[] false s s false)):Mem sy n0 w0 chans' (fun i=>if i=0 then k else cs i) ng gone w t:=by
 have hold:∀ i r b,holdsC chans' (fun i=>if i=0 then k else cs i) i r=some b->∃ f,holdsC chans cs i r=some f/\(b=true->f=true):=by
  intro i r b h;by_cases a:i=0
  ·subst a;exact u r b h
  ·refine⟨b,?_,id⟩;unfold holdsC at h ⊢;simp only[a,false_and,if_false]at h ⊢;exact h
 have d:∀ i r,holdsC chans' (fun i=>if i=0 then k else cs i) i r=some true->holdsC chans cs i r=some true:=by
  intro i r h;obtain⟨f,h1,h2⟩:=hold i r true h;cases h2 rfl;exact h1
 refine⟨?_,?_,m.dp0,?_,fun c hc=>(g c hc).2.2,?_,?_,m.pos,m.base,fun i r h=>m.low i r (d i r h),m.size,m.os,m.tape,m.output⟩
 ·intro i;by_cases a:i=0
  ·simp only[a,if_true];exact q
  ·simp only[a,if_false];exact m.fits i
 ·intro i r b o h;by_cases a:i=0
  ·simp only[a,if_true]at h;exact n r b o h
  ·simp only[a,if_false]at h;exact m.whole i r b o h
 ·refine m.ti.mono (Nat.le_refl _) (Nat.le_refl _) (fun _=>Iff.rfl) hold ?_;intro i j r l h;cases h':holdsC chans' (fun i=>if i=0 then k else cs i) j r with
  | none=>rfl
  | some b =>
   obtain⟨f,h1,_⟩:=hold j r b h';rw[m.ti.excl i j r l (d i r h)]at h1;cases h1
 ·intro c hc i;by_cases a:i=0
  ·simp only[a,if_true];exact(g c hc).1
  ·simp only[a,if_false];exact(g c hc).2.1 i a
 ·intro i p r;have a:i≠0:=fun e=>by subst e;exact absurd m.pos (Nat.not_lt.2 p)
  simp only[a,if_false];exact m.out i p r
end
section
abbrev Crew:=List (Goroutine×LH)
def cons'(s:Script)(l:List Script):List Script:=match s with | []=>l|a::s=>(a::s)::l
def pending:Crew->List Script
 | []=>[]
 | x::l=>cons' x.2.todo (pending l)
variable {i:Nat}{g gw g':Goroutine}{hw:LH}{es:Array Event}
theorem D3(s:Script){l b:List Script}(h:List.Perm l b):List.Perm (cons' s l) (cons' s b):=by
 cases s with
 | nil=>exact h
 | cons a s=>exact h.cons _
theorem cons'_swap(a b:Script)(l:List Script):List.Perm (cons' a (cons' b l)) (cons' b (cons' a l)):=by
 cases a<;>cases b<;>first|exact List.Perm.refl _|exact List.Perm.swap _ _ _
theorem K2:∀ (ws:Crew) (i:Nat) (x:Goroutine×LH),ws[i]?=some x->∃ rest,List.Perm (pending ws) (cons' x.2.todo rest)/\∀ y:Goroutine×LH,List.Perm (pending (ws.set i y)) (cons' y.2.todo rest)
 | [],i,x,h=>by simp at h
 | a::ws,0,x,h=>by
  simp at h;subst h;exact⟨pending ws,List.Perm.refl _,fun y=>List.Perm.refl _⟩
 | a::ws,i+1,x,h=>by
  obtain⟨rest,h1,h2⟩:=K2 ws i x (by simpa using h);exact⟨cons' a.2.todo rest,(D3 _ h1).trans (cons'_swap _ _ _),fun y=>(D3 _ (h2 y)).trans (cons'_swap _ _ _)⟩
theorem mem_pending{s:Script}:∀ {ws:Crew},s∈pending ws->s≠[]/\∃ x∈ws,x.2.todo=s:=by
 intro ws
 induction ws with
 | nil=>intro h;cases h
 | cons a ws d =>
  intro h;have back:s∈pending ws->s≠[]/\∃ x∈a::ws,x.2.todo=s:=by
   intro h;obtain⟨h1,x,c,h2⟩:=d h;exact⟨h1,x,List.mem_cons_of_mem _ c,h2⟩
  change s∈cons' a.2.todo (pending ws)at h;cases e:a.2.todo with
  | nil=>rw[e]at h;exact back h
  | cons b l =>
   rw[e]at h;rcases List.mem_cons.1 h with h|h
   ·exact⟨by rw[h];simp,a,List.mem_cons_self,by rw[e,h]⟩
   ·exact back h
theorem K3{x:Goroutine×LH}(c:x.2.todo≠[]):∀ {ws:Crew},x∈ws->x.2.todo∈pending ws:=by
 intro ws
 induction ws with
 | nil=>intro h;cases h
 | cons a ws d =>
  intro h;change x.2.todo∈cons' a.2.todo (pending ws);rcases List.mem_cons.1 h with h|h
  ·subst h;cases e:x.2.todo with
   | nil=>exact absurd e c
   | cons b l=>exact List.mem_cons_self
  ·have:=d h;cases e:a.2.todo with
   | nil=>exact this
   | cons b l=>exact List.mem_cons_of_mem _ this
def cellsOf(h:LH)(ws:Crew):Nat->Cells
 | 0=>h.get
 | i+1=>match ws[i]? with|some x=>x.2.get|none=>fun _=>none
def goneW(ws:Crew):Nat->Prop
 | 0=>False
 | i+1=>∃ x,ws[i]?=some x/\x.2.todo=[]
theorem Gf{h:LH}{ws:Crew}(a:i<ws.length)(g:Goroutine)(h':LH):cellsOf h (ws.set i (g,h'))=fun k=>if k=i+1 then h'.get else cellsOf h ws k:=by
 funext k;cases k with
 | zero=>simp[cellsOf]
 | succ k =>
  by_cases e:k=i
  ·subst e;simp[cellsOf,a]
  ·simp[cellsOf,e,List.getElem?_set_ne (Ne.symm e)]
theorem Uw{ws:Crew}{x y:Goroutine×LH}(c:ws[i]?=some x)(e:y.2.todo=x.2.todo):goneW (ws.set i y)=goneW ws:=by
 funext k;cases k with
 | zero=>rfl
 | succ k =>
  have a:i<ws.length:=(List.getElem?_eq_some_iff.1 c).1;by_cases b:k=i
  ·subst b;simp only[goneW,List.getElem?_set_self a,c,Option.some.injEq,exists_eq_left',e]
  ·simp only[goneW,List.getElem?_set_ne (Ne.symm b)]
theorem goneW_set'{ws:Crew}{x y:Goroutine×LH}(c:ws[i]?=some x):∀ k,goneW (ws.set i y) k->k=i+1\/goneW ws k:=by
 intro k a;cases k with
 | zero=>exact a.elim
 | succ k =>
  by_cases b:k=i
  ·exact .inl (by rw[b])
  ·right;simp only[goneW,List.getElem?_set_ne (Ne.symm b)]at a ⊢;exact a
structure InvD(dz:Nat)(P:Program)(sy:Sy)(n0:Nat)(w0:World)(h:LH)(ws:Crew)(w:World)(t:Trace):Prop where
 mem:Mem sy n0 w0 h.chans (cellsOf h ws) (ws.length+1) (goneW ws) w t
 wk:∀ x∈ws,Wt P x.1 x.2
 scripts:∀ x∈ws,∀ y∈x.2.todo,y.1∈h.chans
 pend:List.Perm h.pend (pending ws)
 quit:∀ (i:Nat) x,ws[i]?=some x->Deaf t (i+1)=x.2.dp
 deep:sy.dp 0=dz
abbrev Inv:=InvD 0
def EndsWell(P:Program)(Φ:Value->World->Prop)(m:Machine)(t:Trace):Prop :=
 ∃ n last o w' t',runNT P (n+1) m t=(.ended o w',t')/\runN P n m=.next last/\Go.step P last=.ended o w'/\Go.Conc.Good P Φ last o w' t'
variable {P:Program} {Φ:Value->World->Prop} {sy:Sy} {n0:Nat} {w0:World} {h:LH} {ws:Crew} {w:World} {t:Trace} {sl:Option (Nat×Nat)} {dz:Nat}
theorem EndsWell.next{m b:Machine}{ops:Array MemOp}(a:stepT P m=(.next b,ops))(h:EndsWell P Φ b (t++ops)):EndsWell P Φ m t:=by
 obtain⟨n,last,o,w',d,h1,h2,h3,c⟩:=h;exact⟨n+1,last,o,w',d,by rw[runNT_succ_next a];exact h1,by rw[runN_succ_next a];exact h2,h3,c⟩
theorem InvD.at(I:InvD dz P sy n0 w0 h ws w t)(d:Nat):InvD dz P sy n0 w0 h ws (w.at d) t:=⟨I.mem.at d,I.wk,I.scripts,I.pend,I.quit,I.deep⟩
def crew(g:Goroutine)(ws:Crew):Array Goroutine:=(g::ws.map (·.1)).toArray
theorem J6(g:Goroutine)(ws:Crew):(crew g ws)[0]?=some g:=by simp[crew]
theorem Zb(g:Goroutine)(ws:Crew)(i:Nat):(crew g ws)[i+1]?=(ws[i]?).map (·.1):=by simp[crew]
theorem crew_size(g:Goroutine)(ws:Crew):(crew g ws).size=ws.length+1:=by simp[crew]
theorem H3(g:Goroutine)(ws:Crew)(i:Nat)(x:Goroutine×LH):(crew g ws).setIfInBounds (i+1) x.1=crew g (ws.set i x):=by simp[crew,List.map_set]
theorem G4(g g':Goroutine)(ws:Crew):(crew g ws).setIfInBounds 0 g'=crew g' ws:=by simp[crew]
theorem crew_map{ws:Crew}{f:Goroutine->Goroutine}(a:f g=g)(hw:∀ x∈ws,f x.1=x.1):(crew g ws).map f=crew g ws:=by
 unfold crew;simp only[List.map_toArray,List.map_cons,a,List.map_map];congr 2;exact List.map_congr_left hw
theorem Wt.woken{g:Goroutine}{h:LH}(a:Wt P g h){w':World}(b:∀ y∈h.todo,∃ s,w'.heap[y.1]?=some (.chan 0 #[] false s s false))(x e:Goroutine):woken P x e w' g=g:=by
 unfold Go.Conc.woken;split
 ·rcases a with a|⟨fr,cs,c,z,v,φ,s,hv,hr,rfl,d,_⟩
  ·exact again_running _ a.status
  ·obtain⟨s,hc⟩:=b (c,φ) (by rw[d.todo];simp);exact again_send_open hc
 ·rfl
theorem Wt.awake{g:Goroutine}{h:LH}(a:Wt P g h):awake g:=by
 intro t e;rcases a with a|⟨fr,cs,c,z,v,φ,s,hv,hr,rfl,b,_⟩
 ·rcases a.status with h|h<;>rw[h]at e<;>cases e
 ·cases e
theorem Wk.offers{h:LH}(a:Wk P g h)(c:Nat)(b:Bool):offersAt g c b=[] :=
 offersAt_of_not_blocked (by rcases a.status with h|h<;>rw[h]<;>simp) _ _
theorem Wt.offers{g:Goroutine}{h:LH}(a:Wt P g h)(c:Nat):offersAt g c false=[]:=by
 rcases a with a|⟨fr,cs,c,z,v,φ,s,hv,hr,rfl,b,_⟩
 ·exact a.offers _ _
 ·exact offersAt_parked_send' _ _ _ _ _ _
theorem Wt.offersT{h:LH}(a:Wt P g h){c k:Nat}(b:k∈offersAt g c true):k=0/\∃ fr cs z v φ s hv hr,g=parked (G fr cs) #[scase c v z] .send/\Sends P fr cs h c z v φ s hv hr/\Wk P (G (fr.finish undef) cs) { h with get:=hr,todo:=s }:=by
 rcases a with a|⟨fr,cs,c',z,v,φ,s,hv,hr,rfl,d,hw⟩
 ·rw[a.offers]at b;cases b
 ·rw[offersAt_parked_send]at b;split at b
  ·rename_i e;subst e;exact⟨by simpa using b,fr,cs,z,v,φ,s,hv,hr,rfl,d,hw⟩
  ·cases b
theorem InvD.open_(I:InvD dz P sy n0 w0 h ws w t){x:Goroutine×LH}(a:x∈ws):∀ y∈x.2.todo,∃ s,w.heap[y.1]?=some (.chan 0 #[] false s s false) :=
 fun y b=>I.mem.chan _ (I.scripts x a y b)
theorem Yl{ws:Crew}{x:Goroutine×LH}(c:ws[i]?=some x)(a:x.2.todo≠[]):¬ goneW ws (i+1):=by
 rintro⟨y,b,h0⟩;rw[c]at b;cases b;exact a h0
theorem Ud{ws:Crew}{j:Nat}{a x:Goroutine×LH}(b:(ws.set i a)[j]?=some x):(j=i/\x=a)\/(j≠i/\ws[j]?=some x):=by
 by_cases e:j=i
 ·subst e;left;have c:j<ws.length:=by
   have:=(List.getElem?_eq_some_iff.1 b).1;simpa using this
  rw[List.getElem?_set_self c]at b;exact⟨rfl,(Option.some.inj b).symm⟩
 ·rw[List.getElem?_set_ne (Ne.symm e)]at b;exact .inr ⟨e,b⟩
theorem InvD.relay(I:InvD dz P sy n0 w0 h ws w t)(b:ws[i]?=some (gw,hw))(f:Wt P g' hw):InvD dz P sy n0 w0 h (ws.set i (g',hw)) w t:=by
 have d:i<ws.length:=(List.getElem?_eq_some_iff.1 b).1;have c:(gw,hw)∈ws:=List.mem_of_getElem? b;have hc:cellsOf h (ws.set i (g',hw))=cellsOf h ws:=by
  rw[Gf d];funext k;by_cases e:k=i+1
  ·subst e;simp[cellsOf,b]
  ·simp[e]
 obtain⟨rest,g,p2⟩:=K2 ws i _ b;refine⟨?_,?_,?_,I.pend.trans (g.trans (p2 (g',hw)).symm),fun j x a=>(Ud a).elim (fun ⟨e,ex⟩=>by rw[e,ex];exact I.quit i (gw,hw) b) fun ⟨_,a⟩=>I.quit j x a,I.deep⟩
 ·rw[hc,Uw (y:=(g',hw)) b rfl,List.length_set];exact I.mem
 ·intro x a;rcases List.mem_or_eq_of_mem_set a with a|rfl
  ·exact I.wk x a
  ·exact f
 ·intro x a;rcases List.mem_or_eq_of_mem_set a with a|rfl
  ·exact I.scripts x a
  ·exact I.scripts (gw,hw) c
theorem InvD.stepW(I:InvD dz P sy n0 w0 h ws w t)(b:ws[i]?=some (gw,hw))(m:hw.todo≠[]){h':Cells}{w':World}(fn:FuncId)(pos:String)
 (z:Tr hw.get w h' w')(d:∀ e∈es,EvOk hw.get w.heap.size w'.heap.size e)(s:Wk P g' { hw with get:=h' }):InvD dz P sy n0 w0 h (ws.set i (g',{ hw with get:=h' })) w' (t++MemOp.ofEvents (i+1) fn pos es):=by
 have k:i<ws.length:=(List.getElem?_eq_some_iff.1 b).1;have l:(gw,hw)∈ws:=List.mem_of_getElem? b;have c:cellsOf h ws (i+1)=hw.get:=by simp[cellsOf,b]
 obtain⟨rest,v,p2⟩:=K2 ws i _ b;have u:¬ goneW ws (i+1):=Yl b m;have hu:∀ op∈MemOp.ofEvents (i+1) fn pos es,op.g=i+1:=fun op n=>(Js n).1;have r:Deaf (t++MemOp.ofEvents (i+1) fn pos es) (i+1)=Deaf t (i+1):=by
  rw[Deaf_own,deafBehind_none];intro e he;have:=d e he;unfold EvOk at this;refine⟨fun p=>?_,fun p=>?_⟩<;>(rw[p]at this;rcases(show softM _ from this) with hc|⟨f,hc⟩<;>cases hc)
 refine⟨?_,?_,?_,I.pend.trans (v.trans (p2 (g',{ hw with get:=h' })).symm),fun j x a=>(Ud a).elim (fun ⟨e,ex⟩=>by rw[e,ex,r];exact I.quit i (gw,hw) b) fun ⟨e,a⟩=>by
  rw[Deaf_other t (fun q=>e (Nat.succ.inj q).symm) _ hu];exact I.quit j x a,I.deep⟩
 ·rw[Gf k,Uw (x:=(gw,hw)) (y:=(g',{ hw with get:=h' })) b rfl,List.length_set];refine I.mem.step (Nat.succ_lt_succ k) ?_ fn pos (by rw[c];exact z) (by rw[c];exact d);rintro⟨x,a,o⟩;rw[b]at a;cases a;exact m o
 ·intro x a;rcases List.mem_or_eq_of_mem_set a with a|rfl
  ·exact I.wk x a
  ·exact .inl s
 ·intro x a;rcases List.mem_or_eq_of_mem_set a with a|rfl
  ·exact I.scripts x a
  ·exact I.scripts (gw,hw) l
theorem InvD.sayW(I:InvD dz P sy n0 w0 h ws w t)(b:ws[i]?=some (gw,hw))(h0:hw.todo=[])(hm:∀ e∈es,Event.mute e=true)(fn:FuncId)(pos:String){n:Nat}(p:QuitsD P n (deafBehind hw.dp es) g') :
  InvD dz P sy n0 w0 h (ws.set i (g',hw.deaf (deafBehind hw.dp es))) w (t++MemOp.ofEvents (i+1) fn pos es):=by
 have c:i<ws.length:=(List.getElem?_eq_some_iff.1 b).1;have f:(gw,hw)∈ws:=List.mem_of_getElem? b;have hc:cellsOf h (ws.set i (g',hw.deaf (deafBehind hw.dp es)))=cellsOf h ws:=by
  rw[Gf c];funext k;by_cases e:k=i+1
  ·subst e;simp[cellsOf,b,LH.deaf]
  ·simp[e]
 have hu:∀ op∈MemOp.ofEvents (i+1) fn pos es,op.g=i+1:=fun op d=>(Js d).1;obtain⟨rest,q,p2⟩:=K2 ws i _ b;refine⟨?_,?_,?_,I.pend.trans (q.trans (p2 (g',hw.deaf (deafBehind hw.dp es))).symm),fun j x a=>(Ud a).elim (fun ⟨e,ex⟩=>by rw[e,ex,Deaf_own,I.quit i _ b,Ho]) fun ⟨e,a⟩=>by
  rw[Deaf_other t (fun o=>e (Nat.succ.inj o).symm) _ hu];exact I.quit j x a,I.deep⟩
 ·rw[hc,Uw (y:=(g',hw.deaf (deafBehind hw.dp es))) b rfl,List.length_set];have m:=I.mem;exact⟨m.fits,m.whole,m.dp0,m.ti.say (Nat.succ_lt_succ c) ⟨_,b,h0⟩ hm,m.chan,m.free,m.out,m.pos,m.base,m.low,m.size,m.os,m.tape,m.output⟩
 ·intro x a;rcases List.mem_or_eq_of_mem_set a with a|rfl
  ·exact I.wk x a
  ·exact .inl (.quit h0 (by rw[Ho];exact p))
 ·intro x a;rcases List.mem_or_eq_of_mem_set a with a|rfl
  ·exact I.scripts x a
  ·intro y l;rw[show (hw.deaf (deafBehind hw.dp es)).todo=[] from h0]at l;cases l
theorem InvD.pass(I:InvD 0 P sy n0 w0 h ws w t){i:Nat}{gw:Goroutine}{hw:LH}(r:ws[i]?=some (gw,hw)){fr:Frame}{cs:List Frame}{c:Nat}{z v:Value}{φ:Value->Cells->Prop}{s:Script}{hv hr:Cells}
 (p:Sends P fr cs hw c z v φ s hv hr)(A:Wk P (G (fr.finish undef) cs) { hw with get:=hr,todo:=s }){n d:Nat}(hc:w.heap[c]?=some (.chan 0 #[] false n n false))
 {a b e f:MemOp}(K:a.g=i+1/\a.act=.send c n)(hb:b.g=0/\b.act=.recv c n 0)(he:e.g=i+1/\e.act=.sendDone c n)(L:f.g=0/\f.act=.recvDone c n) :
  ∃ pre post,h.pend=pre++((c,φ)::s)::post/\Disj h.get hv /\
   Inv P sy n0 w0 { h with get:=h.get.add hv,pend:=pre++cons' s post } (ws.set i (G (fr.finish undef) cs,{ hw with get:=hr,todo:=s })) ((w.at d).setChan c 0 #[] false (n+1) (n+1) false) (t++#[a,b,e,f]):=by
 have u:i<ws.length:=(List.getElem?_eq_some_iff.1 r).1;have o:(gw,hw)∈ws:=List.mem_of_getElem? r;have E:cellsOf h ws (i+1)=hw.get:=by simp[cellsOf,r]
 have D:c∈h.chans:=I.scripts _ o (c,φ) (by show (c,φ)∈hw.todo;rw[p.todo];simp);obtain⟨rest,N,p2⟩:=K2 ws i _ r;have H:((c,φ)::s)∈h.pend:=I.pend.mem_iff.2 (by rw[<- p.todo];exact K3 (x:=(gw,hw)) (by show hw.todo≠[];rw[p.todo];simp) o);obtain⟨pre,post,C⟩:=List.append_of_mem H;obtain⟨F,hm⟩:=I.mem.pass (j:=i+1) (d:=d) (Nat.succ_lt_succ u) (Nat.succ_ne_zero _) I.deep D hc (E.trans p.get) p.disj p.own K ⟨by rw[hb.1];exact Nat.succ_pos _,hb.2⟩ ⟨by rw[he.1];exact Nat.succ_lt_succ u,he.2⟩ L
  (goneW_set' (y:=(G (fr.finish undef) cs,{ hw with get:=hr,todo:=s })) r)
  (fun k A=>by
   cases k with
   | zero=>exact A
   | succ k =>
    have:k≠i:=fun e=>by subst e;exact Yl r (by show hw.todo≠[];rw[p.todo];simp) A
    obtain⟨x,l,h0⟩:=A;exact⟨x,by rw[List.getElem?_set_ne (Ne.symm this)];exact l,h0⟩)
  (fun h=>h) (Yl r (by show hw.todo≠[];rw[p.todo];simp))
 have J:∀ op∈(#[a,b,e,f]:Trace),∀ m,op.act≠.mark m:=by
  intro op B m;simp only[List.mem_toArray,List.mem_cons,List.not_mem_nil,or_false]at B;rcases B with rfl|rfl|rfl|rfl
  ·rw[K.2];exact nofun
  ·rw[hb.2];exact nofun
  ·rw[he.2];exact nofun
  ·rw[L.2];exact nofun
 refine⟨pre,post,C,F,?_,?_,?_,?_,fun j x l=>by
  rw[U4 J];exact(Ud l).elim (fun ⟨e,ex⟩=>by rw[e,ex];exact I.quit i (gw,hw) r) fun ⟨_,l⟩=>I.quit j x l,I.deep⟩
 ·have q:(fun k=>if k=i+1 then hr else if k=0 then (cellsOf h ws 0).add hv else cellsOf h ws k)=cellsOf { h with get:=h.get.add hv,pend:=pre++cons' s post } (ws.set i (G (fr.finish undef) cs,{ hw with get:=hr,todo:=s })):=by
   rw[Gf u];funext k;cases k with
   | zero=>simp[cellsOf]
   | succ k=>by_cases e:k=i<;>simp[cellsOf,e]
  rw[<- q,List.length_set];exact hm
 ·intro x l;rcases List.mem_or_eq_of_mem_set l with l|rfl
  ·exact I.wk x l
  ·exact .inl A
 ·intro x l;rcases List.mem_or_eq_of_mem_set l with l|rfl
  ·exact I.scripts x l
  ·intro y M;exact I.scripts _ o y (by show y∈hw.todo;rw[p.todo];exact List.mem_cons_of_mem _ M)
 ·have O:List.Perm (((c,φ)::s)::(pre++post)) (((c,φ)::s)::rest):=by
   have:List.Perm (cons' hw.todo rest) (((c,φ)::s)::rest):=by rw[p.todo];exact List.Perm.refl _
   exact(List.perm_middle.symm.trans ((by rw[<- C]:List.Perm (pre++((c,φ)::s)::post) h.pend).trans (I.pend.trans N))).trans this
  have Q:=O.cons_inv;have R:List.Perm (pre++cons' s post) (cons' s (pre++post)):=by
   cases s with
   | nil=>exact List.Perm.refl _
   | cons a s=>exact List.perm_middle
  exact(R.trans (D3 s Q)).trans (p2 (G (fr.finish undef) cs,{ hw with get:=hr,todo:=s })).symm
end
section
variable {P:Program} {Φ:Value->World->Prop} {sy:Sy} {n0:Nat} {w0:World} {h:LH} {ws:Crew} {w:World} {t:Trace} {sl:Option (Nat×Nat)} {dz:Nat}
variable {g gm:Goroutine}{i:Nat}{fr:Frame}{cs:List Frame}{hw:LH}
theorem crew_awake(c:awake g)(hw:∀ x∈ws,Wt P x.1 x.2):∀ a∈crew g ws,awake a:=by
 intro a b;unfold crew at b;simp only[List.mem_toArray,List.mem_cons,List.mem_map]at b;rcases b with rfl|⟨x,d,rfl⟩
 ·exact c
 ·exact(hw x d).awake
def MainOk(P:Program)(Φ:Value->World->Prop)(g:Goroutine)(h:LH)(ws:Crew)(w:World)(sl:Option (Nat×Nat))(t:Trace):Prop :=
 (∃ m' ops,runT P (crowd (crew g ws) w sl) 0=(.next m',ops)/\EndsWell P Φ m' (t++ops)) \/
 (∃ v w' ops,runT P (crowd (crew g ws) w sl) 0=(.ended (.done v) w',ops)/\Φ v w'/\h.pend=[]/\(∃ sy n hold,TI sy (t++ops) n (ws.length+1) hold (goneW ws))/\∀ (i:Nat) x,ws[i]?=some x->Deaf (t++ops) (i+1)=x.2.dp)
def TopD(dz:Nat)(P:Program)(n0:Nat)(w0:World)(Φ:Value->World->Prop)(g:Goroutine)(h:LH):Prop :=
 ∀ sy ws w sl t,InvD dz P sy n0 w0 h ws w t->EndsWell P Φ (crowd (crew g ws) w sl) t
abbrev Top:=TopD 0
def OpenAt(h:LH)(w:World):Prop:=∀ c∈h.chans,∃ s,w.heap[c]?=some (.chan 0 #[] false s s false)
theorem D2{w':World}(hw:∀ x∈ws,Wt P x.1 x.2)(b:∀ x∈ws,∀ y∈x.2.todo,y.1∈h.chans)(e:OpenAt h w'){x d:Goroutine}(a:woken P x d w' gm=gm):(crew gm ws).map (woken P x d w')=crew gm ws :=
 crew_map a fun y c=>(hw y c).woken (fun z f=>e _ (b y c z f)) _ _
theorem worker_step(I:InvD dz P sy n0 w0 h ws w t)(d:∀ x o w',OpenAt h w'->woken P x o w' gm=gm)(e:ws[i]?=some (G fr cs,hw))(f:hw.todo≠[])
 {N:Goroutine->LH->Prop}(m:LStep P false (G fr cs) hw N)(l:∀ g' h',N g' h'->Wk P g' h') :
  ∃ g' h' w' ops,runT P (crowd (crew gm ws) w sl) (i+1)=(.next (crowd (crew gm (ws.set i (g',h'))) w' sl),ops)/\N g' h'/\h'.todo=hw.todo/\InvD dz P sy n0 w0 h (ws.set i (g',h')) w' (t++ops):=by
 have b:cellsOf h ws (i+1)=hw.get:=by simp[cellsOf,e]
 obtain⟨g',w',es,h',hgo,n,c,j⟩:=m w (by rw[<- b];exact I.mem.fits (i+1));have g:=I.stepW e f (G fr cs).frame.fn (G fr cs).frame.place n c (l g' _ j);refine⟨g',{ hw with get:=h' },w',_,?_,j,rfl,g⟩;have a:(crew gm ws)[i+1]?=some (G fr cs):=by rw[Zb,e];rfl
 rw[runT_crowd_go a (by rw[show (i+1==0)=false from rfl];exact hgo)];have k:OpenAt h w':=g.mem.chan;rw[D2 I.wk I.scripts k (d _ _ _ k)];rw[H3 gm ws i (g',{ hw with get:=h' })]
theorem worker_quit(I:InvD dz P sy n0 w0 h ws w t)(b:∀ x k w',OpenAt h w'->woken P x k w' gm=gm){gw g':Goroutine}(d:ws[i]?=some (gw,hw))(h0:hw.todo=[]){es:Array Event}(c:∀ e∈es,Event.mute e=true)
 (j:∀ w,stepG P false gw w=.go g' w es){n:Nat}(g:QuitsD P n (deafBehind hw.dp es) g') :
  ∃ ops,runT P (crowd (crew gm ws) w sl) (i+1)=(.next (crowd (crew gm (ws.set i (g',hw.deaf (deafBehind hw.dp es)))) w sl),ops)/\InvD dz P sy n0 w0 h (ws.set i (g',hw.deaf (deafBehind hw.dp es))) w (t++ops):=by
 have a:(crew gm ws)[i+1]?=some gw:=by rw[Zb,d];rfl
 refine⟨_,?_,I.sayW d h0 c gw.frame.fn gw.frame.place g⟩;rw[runT_crowd_go a (by rw[show (i+1==0)=false from rfl];exact j w)];have f:OpenAt h w:=I.mem.chan;rw[D2 I.wk I.scripts f (b _ _ _ f),H3 gm ws i (g',hw.deaf (deafBehind hw.dp es))]
theorem worker_waits(I:InvD dz P sy n0 w0 h ws w t)(e:∀ c,offersAt gm c false=[])(f:ws[i]?=some (G fr cs,hw)){c:Nat}{z v:Value}{φ:Value->Cells->Prop}{s:Script}{hv hr:Cells}
 (k:Sends P fr cs hw c z v φ s hv hr)(o:Wk P (G (fr.finish undef) cs) { hw with get:=hr,todo:=s }) :
  runT P (crowd (crew gm ws) w sl) (i+1)=(.next (crowd (crew gm (ws.set i (parked (G fr cs) #[scase c v z] .send,hw))) w sl),#[])/\InvD dz P sy n0 w0 h (ws.set i (parked (G fr cs) #[scase c v z] .send,hw)) w t:=by
 have b:(crew gm ws)[i+1]?=some (G fr cs):=by rw[Zb,f];rfl
 refine⟨?_,I.relay f (.inr ⟨fr,cs,c,z,v,φ,s,hv,hr,rfl,k,o⟩)⟩;obtain⟨n,hc⟩:=I.open_ (List.mem_of_getElem? f) (c,φ) (by show (c,φ)∈hw.todo;rw[k.todo];simp);have hp:partners ((crew gm ws).setIfInBounds (i+1) ph) c false=[]:=by
  refine partners_nil fun j g a=>?_;rcases getElem?_stand _ _ _ _ a with⟨_,rfl⟩|⟨_,a⟩
  ·exact offersAt_ph _ _
  ·cases j with
   | zero=>rw[J6]at a;cases a;exact e c
   | succ j =>
    rw[Zb]at a;cases l:ws[j]? with
    | none=>rw[l]at a;cases a
    | some x=>rw[l]at a;cases a;exact(I.wk x (List.mem_of_getElem? l)).offers c
 rw[crowd_waits (es:=#[]) b (by rw[show (i+1==0)=false from rfl];exact k.step w) (fun m d=>by
  have:m=scase c v z:=by simpa using d
  rw[this];exact ways_send_none hc (Nat.le_refl _) hp)]
 rw[H3 gm ws i (parked (G fr cs) #[scase c v z] .send,hw)];rfl
theorem leaves_all(hw:∀ x∈ws,Wt P x.1 x.2)(h0:∀ x∈ws,x.2.todo=[]):∀ x∈ws,∃ n,QuitsD P n x.2.dp x.1:=by
 intro x e;have h:=h0 x e;obtain⟨g,i⟩:=x;rcases hw _ e with a|⟨fr,cs,c,z,v,φ,s,hv,hr,rfl,d,_⟩
 ·cases a with
  | step b _ _=>exact absurd h b
  | send d _=>have:=d.todo;rw[h]at this;cases this
  | quit _ f=>exact⟨_,f⟩
 ·have:=d.todo;rw[h]at this;cases this
theorem drive(G:g.status=.running)(p:∀ sy ws w sl t,InvD dz P sy n0 w0 h ws w t->MainOk P Φ g h ws w sl t):TopD dz P n0 w0 Φ g h:=by
 have C:∀ x W w',OpenAt h w'->woken P x W w' g=g:=fun x W w' _=>by
  unfold woken;split
  ·exact again_running _ (.inl G)
  ·rfl
 have hgo:∀ c,offersAt g c false=[]:=fun c=>offersAt_of_not_blocked (by rw[G];simp) _ _;intro sy ws w sl t B;have hS:=Sys.all ws B.wk
 induction hS generalizing w sl t with
 | mk ws K hm hk R =>
  obtain⟨i,gi,d,o,a,b,k⟩:=crowd_pick (P:=P) (gs:=crew g ws) (w:=w) (sl:=sl) (crew_awake (fun t e=>by rw[G]at e;cases e) B.wk) ⟨0,g,J6 g ws,G⟩;have I:=B.at d;cases i with
  | zero =>
   rw[J6]at a;cases a;rcases p sy ws (w.at d) o t I with⟨m',ops,hr,he⟩|⟨v,w',ops,hr,Q,hp,⟨a0,n,hold,U⟩,X⟩
   ·exact EndsWell.next (k.trans hr) he
   ·have h0:∀ x∈ws,x.2.todo=[]:=by
     intro x F;by_cases e:x.2.todo=[]
     ·exact e
     ·have:=B.pend.mem_iff.2 (K3 e F);rw[hp]at this;cases this
    have V:=leaves_all B.wk h0;refine⟨0,crowd (crew g ws) w sl,.done v,w',t++ops,?_,rfl,?_,v,rfl,Q,U.noRace,U.handedOver ?_,⟨?_,rfl⟩,?_⟩
    ·simp[runNT,k.trans hr]
    ·simp[Go.step,k.trans hr]
    ·intro j Z l;cases j with
     | zero=>exact absurd rfl Z
     | succ j =>
      have D:j<ws.length:=Nat.lt_of_succ_lt_succ l;exact⟨ws[j],List.getElem?_eq_getElem D,h0 _ (List.getElem_mem D)⟩
    ·intro x F;have:x∈ws.map (·.1):=by simpa[crowd,crew] using F
     obtain⟨y,f,rfl⟩:=List.mem_map.1 this;obtain⟨n,q⟩:=V y f;exact⟨n,q.leaves⟩
    ·intro j x F r;cases j with
     | zero=>exact absurd rfl r
     | succ j =>
      have m:(crew g ws)[j+1]?=some x:=F;rw[Zb]at m;cases f:ws[j]? with
      | none=>rw[f]at m;cases m
      | some y =>
       rw[f]at m;cases m;obtain⟨n,q⟩:=V y (List.mem_of_getElem? f);have e:=X j y f;unfold Deaf at e;rw[e];exact⟨n,q.hears _⟩
  | succ i =>
   rw[Zb]at a;cases f:ws[i]? with
   | none=>rw[f]at a;cases a
   | some y =>
    rw[f]at a;cases a;obtain⟨gw,hw⟩:=y;have l:i<ws.length:=(List.getElem?_eq_some_iff.1 f).1;simp only at b;rcases hm i gw hw f with⟨fr,cs,N,rfl,r,H,S⟩|⟨fr,cs,c,z,v,φ,s,hv,hr,rfl,H,E,J⟩|⟨fr,cs,c,z,v,φ,s,hv,hr,rfl,H,E⟩|⟨h0,Y⟩|⟨h0,_,n,g',es,L,O,M,J⟩
    ·obtain⟨g',h',w',ops,hr,q,_,A⟩:=worker_step (sl:=o) I C f r H (fun g' h' q=>(S g' h' q).1);exact EndsWell.next (k.trans hr) (R i g' h' l (S g' h' q).2 _ _ _ A)
    ·obtain⟨u,A⟩:=worker_waits (sl:=o) I hgo f H E;exact EndsWell.next (k.trans u) (by rw[Array.append_empty];exact R i _ _ l J _ _ _ A)
    ·cases b
    ·rw[Y]at b;cases b
    ·obtain⟨ops,u,A⟩:=worker_quit (sl:=o) I C f h0 L O M;exact EndsWell.next (k.trans u) (R i _ _ l J _ _ _ A)
end
section
variable {P:Program} {Φ:Value->World->Prop} {sy:Sy} {n0:Nat} {w0:World} {h:LH} {ws:Crew} {w:World} {t:Trace} {sl:Option (Nat×Nat)}
def Served(R:Goroutine->LH->Prop)(fr:Frame)(cs:List Frame)(cases:Array CommCase)(shape:CommShape)(h:LH):Prop :=
 ∀ pre φ s post (k:Nat) c v hv z,h.pend=pre++((c,φ)::s)::post->cases[k]?=some (rcase c z)->Disj h.get hv->(∀ r x,hv r=some x->x.1=true)->φ v hv ->
  R (G (fr.finish (commResult cases shape (k:Nat) v true)) cs) { h with get:=h.get.add hv,pend:=pre++cons' s post }
structure Receives(P:Program)(fr:Frame)(cs:List Frame)(cases:Array CommCase)(shape:CommShape)(h:LH):Prop where
 step:∀ w,stepG P true (G fr cs) w=.comm (G fr cs) cases true shape w #[]
 recv:∀ (k:Nat) (cc:CommCase),cases[k]?=some cc->∃ c z,cc=rcase c z/\c∈h.chans
 some_:h.pend≠[]
 heads:∀ s∈h.pend,∃ (c:Nat) (φ:Value->Cells->Prop) (s':Script) (k:Nat) (z:Value),s=(c,φ)::s'/\cases[k]?=some (rcase c z)
variable {fr:Frame}{cs:List Frame}
theorem taken(I:Inv P sy n0 w0 h ws w t){cases:Array CommCase}{shape:CommShape}(C:Served (Top P n0 w0 Φ) fr cs cases shape h){i:Nat}{gw:Goroutine}{hw:LH}(B:ws[i]?=some (gw,hw))
 {l:Frame}{j:List Frame}{c:Nat}{z u v:Value}{φ:Value->Cells->Prop}{s:Script}{hv hr:Cells}(q:Sends P l j hw c z v φ s hv hr)(r:Wk P (G (l.finish undef) j) { hw with get:=hr,todo:=s })
 {k n d:Nat}(hc:w.heap[c]?=some (.chan 0 #[] false n n false))(m:cases[k]?=some (rcase c u))
 {a b e f:MemOp}(y:a.g=i+1/\a.act=.send c n)(hb:b.g=0/\b.act=.recv c n 0)(he:e.g=i+1/\e.act=.sendDone c n)(A:f.g=0/\f.act=.recvDone c n) :
  EndsWell P Φ (crowd (crew (G (fr.finish (commResult cases shape (k:Nat) v true)) cs) (ws.set i (G (l.finish undef) j,{ hw with get:=hr,todo:=s }))) ((w.at d).setChan c 0 #[] false (n+1) (n+1) false) sl) (t++#[a,b,e,f]):=by
 obtain⟨pre,post,p,o,x⟩:=I.pass B q r (d:=d) hc y hb he A;exact C pre φ s post k c v hv u p m o q.own q.val _ _ _ sl _ x
theorem drive_waiting{cases:Array CommCase}{shape:CommShape}(hR:Receives P fr cs cases shape h)(hk:Served (Top P n0 w0 Φ) fr cs cases shape h) :
  ∀ ws w sl t,Inv P sy n0 w0 h ws w t->(∀ x∈ws,Wk P x.1 x.2)->EndsWell P Φ (crowd (crew (parked (G fr cs) cases shape) ws) w sl) t:=by
 have R:∀ w',OpenAt h w'->(parked (G fr cs) cases shape).again w'=parked (G fr cs) cases shape:=by
  intro w' ho;have m0:(cases.any fun c=>match c.chan with
    | .chan (some r)=>(w'.heap[r]? matches some (.chan _ _ true ..))
    | _=>false)=false:=by
   rw[Array.any_eq_false];intro k C;obtain⟨c,z,e,hc⟩:=hR.recv k _ (Array.getElem?_eq_getElem C);obtain⟨s,A⟩:=ho c hc;rw[e];simp[rcase,A]
  unfold Goroutine.again;simp only[parked];rw[if_neg];rw[Bool.not_eq_true];exact m0
 have Z:∀ x x' w',OpenAt h w'->woken P x x' w' (parked (G fr cs) cases shape)=parked (G fr cs) cases shape:=fun x x' w' ho=>by
  unfold woken;split
  ·exact R w' ho
  ·rfl
 intro ws w sl t Y Q;have hS:=Sys.all ws Y.wk
 induction hS generalizing w sl t with
 | mk ws K hm e1 ih =>
  -- W runs
  obtain⟨j,y,q,D⟩ : ∃ (j:Nat) (y:Goroutine×LH),ws[j]?=some y/\y.2.todo≠[]:=by
   cases hp:h.pend with
   | nil=>exact absurd hp hR.some_
   | cons s l =>
    have:s∈pending ws:=Y.pend.mem_iff.1 (by rw[hp];simp);obtain⟨h1,x,u,h2⟩:=mem_pending this;obtain⟨j,hj⟩:=List.getElem?_of_mem u;exact⟨j,x,hj,by rw[h2];exact h1⟩
  have S:y.1.status=.running:=by
   rcases hm j y.1 y.2 q with⟨fr,cs,N,e,_⟩|⟨fr,cs,c,z,v,φ,s,hv,hr,e,_⟩|⟨fr,cs,c,z,v,φ,s,hv,hr,e,_⟩|⟨h0,_⟩|⟨h0,_⟩
   ·rw[e];rfl
   ·rw[e];rfl
   ·rcases(Q y (List.mem_of_getElem? q)).status with h|h<;>rw[e]at h<;>cases h
   ·exact absurd h0 D
   ·exact absurd h0 D
  obtain⟨i,gi,d,V,a,m,U⟩:=crowd_pick (P:=P) (gs:=crew (parked (G fr cs) cases shape) ws) (w:=w) (sl:=sl) (crew_awake (fun t e=>by cases e) Y.wk) ⟨j+1,y.1,by rw[Zb,q];rfl,S⟩;have I:=Y.at d;cases i with
  | zero=>rw[J6]at a;cases a;cases m
  | succ i =>
   rw[Zb]at a;cases q:ws[i]? with
   | none=>rw[q]at a;cases a
   | some y =>
    rw[q]at a;cases a;obtain⟨gw,hw⟩:=y;have C:i<ws.length:=(List.getElem?_eq_some_iff.1 q).1;simp only at m;rcases hm i gw hw q with⟨f,b,N,rfl,D,A,hN⟩|⟨f,b,c,z,v,φ,s,hv,hr,rfl,A,k0,hK⟩|⟨f,b,c,z,v,φ,s,hv,hr,rfl,A,k0⟩|⟨h0,hf⟩|⟨h0,_,n,g',es,p0,u0,g0,hK⟩
    ·obtain⟨g',h',w',ops,hr,hn,_,I'⟩:=worker_step (sl:=V) I Z q D A (fun g' h' hn=>(hN g' h' hn).1);refine EndsWell.next (U.trans hr) (ih i g' h' C (hN g' h' hn).2 _ _ _ I' ?_);intro x u;rcases List.mem_or_eq_of_mem_set u with u|rfl
     ·exact Q x u
     ·exact(hN g' h' hn).1
    ·-- it meets g1 first
     have s0:(((c,φ)::s):Script)∈h.pend:=Y.pend.mem_iff.2 (by
      have:=K3 (x:=(G f b,hw)) (by show hw.todo≠[];rw[A.todo];simp) (List.mem_of_getElem? q);rw[show (G f b,hw).2.todo=(c,φ)::s from A.todo]at this;exact this)
     obtain⟨c₁,φ₁,z0,k,zk,X,J⟩:=hR.heads _ s0;cases X;obtain⟨n,hc⟩ : ∃ n,(w.at d).heap[c]?=some (.chan 0 #[] false n n false):=I.open_ (List.mem_of_getElem? q) (c,φ) (by show (c,φ)∈hw.todo;rw[A.todo];simp);have a:(crew (parked (G fr cs) cases shape) ws)[i+1]?=some (G f b):=by rw[Zb,q];rfl
     have p:∀ E k',(E,k')∈partners ((crew (parked (G fr cs) cases shape) ws).setIfInBounds (i+1) ph) c false↔E=0/\k'∈offersAt (parked (G fr cs) cases shape) c false:=by
      intro E k';rw[mem_partners];constructor
      ·rintro⟨g,B,o⟩;rcases getElem?_stand _ _ _ _ B with⟨_,rfl⟩|⟨_,B⟩
       ·rw[offersAt_ph]at o;cases o
       ·cases E with
        | zero=>rw[J6]at B;cases B;exact⟨rfl,o⟩
        | succ E =>
         rw[Zb]at B;cases u:ws[E]? with
         | none=>rw[u]at B;cases B
         | some x=>rw[u]at B;cases B;rw[(I.wk x (List.mem_of_getElem? u)).offers c]at o;cases o
      ·rintro⟨rfl,o⟩;exact⟨_,stand_get (by simp) (J6 _ _),o⟩
     have H:∀ k',k'∈offersAt (parked (G fr cs) cases shape) c false↔∃ zk,cases[k']?=some (rcase c zk):=by
      intro k';unfold offersAt parked;simp only[List.mem_map,List.mem_filter,Prod.exists];constructor
      ·rintro⟨cc,k₂,⟨o0,M⟩,rfl⟩;have L:=Array.mem_zipIdx_iff_getElem?.1 (Array.mem_toList_iff.1 o0);have F:cases[k₂]?=some cc:=by simpa using L
       obtain⟨c₂,l0,rfl,_⟩:=hR.recv k₂ cc F;have:c₂=c:=by simpa[rcase] using M
       subst this;exact⟨l0,F⟩
      ·rintro⟨zk,L⟩;exact⟨rcase c zk,k',⟨Array.mem_toList_iff.2 (Array.mem_zipIdx_iff_getElem?.2 (by simpa using L)),by simp[rcase]⟩,rfl⟩
     obtain⟨y0,a1,x0,O,j0⟩:=crowd_send_meets_sel (P:=P) (sl:=V) (es:=#[]) (j:=0) (gj:=G fr cs) (shj:=shape) (cases:=cases) a (by rw[show (i+1==0)=false from rfl];exact A.step _) hc (by simp) (J6 _ _)
      (by
       intro e;have:(0,k)∈partners ((crew (parked (G fr cs) cases shape) ws).setIfInBounds (i+1) ph) c false:=(p 0 k).2 ⟨rfl,(H k).2 ⟨zk,J⟩⟩;rw[e]at this;cases this)
      (fun E k' a0=>⟨((p E k').1 a0).1,(H k').1 ((p E k').1 a0).2⟩)
     rw[G4,show ((G f b).finishComm P #[scase c v z] .send 0 undef false)=(G (f.finish undef) b,{ hw with get:=hr,todo:=s }).1 from rfl,H3]at j0;refine EndsWell.next (U.trans j0) ?_;have e0:MemOp.ofEvents (i+1) (G f b).frame.fn (G f b).frame.place #[]=#[]:=rfl;rw[e0,Array.empty_append];exact taken I hk q A k0 hc O ⟨rfl,rfl⟩ ⟨rfl,rfl⟩ ⟨rfl,rfl⟩ ⟨rfl,rfl⟩
    ·cases m
    ·rw[hf]at m;cases m
    ·obtain⟨ops,q0,I'⟩:=worker_quit (sl:=V) I Z q h0 p0 u0 g0;refine EndsWell.next (U.trans q0) (by
      refine ih i _ _ C hK _ _ _ I' ?_;intro x u;rcases List.mem_or_eq_of_mem_set u with u|rfl
      ·exact Q x u
      ·exact .quit h0 (by rw[Ho];exact g0))
theorem top_recv{cases:Array CommCase}{shape:CommShape}(F:Receives P fr cs cases shape h)(W:Served (Top P n0 w0 Φ) fr cs cases shape h):Top P n0 w0 Φ (G fr cs) h:=by
 refine drive rfl fun sy ws w sl t I=>.inl ?_;have H:∀ (k:Nat) (D:CommCase),cases[k]?=some D->∃ c z s,D=rcase c z/\w.heap[c]?=some (.chan 0 #[] false s s false):=by
  intro k D p;obtain⟨c,z,e,hc⟩:=F.recv k D p;obtain⟨s,r⟩:=I.mem.chan c hc;exact⟨c,z,s,e,r⟩
 have C:∀ c j k,(j,k)∈partners ((crew (G fr cs) ws).setIfInBounds 0 ph) c true->k=0/\∃ i gw hw f b z v φ s hv hr,j=i+1/\ws[i]?=some (gw,hw)/\gw=parked (G f b) #[scase c v z] .send/\Sends P f b hw c z v φ s hv hr/\Wk P (G (f.finish undef) b) { hw with get:=hr,todo:=s }:=by
  intro c j k A;obtain⟨g,u,B⟩:=mem_partners.1 A;rcases getElem?_stand _ _ _ _ u with⟨_,rfl⟩|⟨y,u⟩
  ·rw[offersAt_ph]at B;cases B
  ·cases j with
   | zero=>exact absurd rfl y
   | succ i =>
    rw[Zb]at u;cases o:ws[i]? with
    | none=>rw[o]at u;cases u
    | some x =>
     rw[o]at u;cases u;obtain⟨h0,f,b,z,v,φ,s,hv,hr,h1,h2,h3⟩:=(I.wk x (List.mem_of_getElem? o)).offersT B;exact⟨h0,i,x.1,x.2,f,b,z,v,φ,s,hv,hr,rfl,o,h1,h2,h3⟩
 by_cases J:∃ (k:Nat) (c:Nat) (z:Value),cases[k]?=some (rcase c z)/\partners ((crew (G fr cs) ws).setIfInBounds 0 ph) c true≠[]
 ·obtain⟨k,c,z,n,j,gj,N,O,shj,d,m,hc,y,q,L⟩:=crowd_sel_meets (P:=P) (sl:=sl) (es:=#[]) (J6 (G fr cs) ws) (F.step w) H
   (fun c j k A=>by
    obtain⟨h0,i,gw,hw,f,b,z,v,φ,s,hv,hr,rfl,o,rfl,_⟩:=C c j k A;exact⟨h0,by simp,G f b,v,z,.send,by rw[Zb,o];rfl⟩) J
  cases j with
  | zero=>exact absurd rfl y
  | succ i =>
   rw[Zb]at q;cases o:ws[i]? with
   | none=>rw[o]at q;cases q
   | some x =>
    rw[o]at q;simp only[Option.map_some,Option.some.injEq]at q;obtain⟨gw,hw⟩:=x;simp only at q;rcases I.wk (gw,hw) (List.mem_of_getElem? o) with a|⟨f,b,c',Z,Y,φ,s,hv,hr,e,r,M⟩
    ·rcases a.status with h'|h'<;>rw[q]at h'<;>cases h'
    ·simp only at e;rw[q]at e;have U : #[scase c N O]=#[scase c' Y Z]/\shj=.send:=by
      have:=congrArg Goroutine.offers e;simpa[parked] using this
     have e2:c=c'/\N=Y/\O=Z:=by
      have:=U.1;simp[scase]at this;exact⟨this.1,this.2.1,this.2.2⟩
     obtain⟨rfl,rfl,rfl⟩:=e2;have V:gj.finishComm P #[scase c N O] shj (0:Nat) undef false=G (f.finish undef) b:=by
      rw[<- finishComm_parked P gj #[scase c N O] #[scase c N O] shj shj,e,U.2];rfl
     rw[show ((0:Nat):Int)=0 from rfl]at V;rw[V,show G (f.finish undef) b=(G (f.finish undef) b,{ hw with get:=hr,todo:=s }).1 from rfl,H3,G4]at L;refine⟨_,_,L,?_⟩;have Q:MemOp.ofEvents 0 (G fr cs).frame.fn (G fr cs).frame.place #[]=#[]:=rfl;rw[Q,Array.empty_append];exact taken I W o r M hc m ⟨rfl,rfl⟩ ⟨rfl,rfl⟩ ⟨rfl,rfl⟩ ⟨rfl,rfl⟩
 ·have K:∀ (k:Nat) (c:Nat) (z:Value),cases[k]?=some (rcase c z)->partners ((crew (G fr cs) ws).setIfInBounds 0 ph) c true=[]:=by
   intro k c z p;cases hp:partners ((crew (G fr cs) ws).setIfInBounds 0 ph) c true with
   | nil=>rfl
   | cons a l=>exact absurd ⟨k,c,z,p,by rw[hp];simp⟩ J
  refine⟨_,_,crowd_waits (es:=#[]) (J6 (G fr cs) ws) (F.step w) (fun D R=>?_),?_⟩
  ·obtain⟨k,p⟩:=Array.mem_iff_getElem?.1 R;obtain⟨c,z,s,rfl,r⟩:=H k D p;exact ways_recv_none r (K k c z p)
  ·rw[G4];have Q:MemOp.ofEvents 0 (G fr cs).frame.fn (G fr cs).frame.place #[]=#[]:=rfl;rw[Q,Array.append_empty];refine drive_waiting F W ws w sl t I ?_;intro x o;rcases I.wk x o with a|⟨f,b,c,z,v,φ,s,hv,hr,e,r,M⟩
   ·exact a
   ·exfalso;have S:(((c,φ)::s):Script)∈h.pend:=I.pend.mem_iff.2 (by
     have:=K3 (x:=x) (by rw[r.todo];simp) o;rw[r.todo]at this;exact this)
    obtain⟨c₁,φ₁,X,k,zk,E,m⟩:=F.heads _ S;cases E;obtain⟨i,hi⟩:=List.getElem?_of_mem o;have:(i+1,0)∈partners ((crew (G fr cs) ws).setIfInBounds 0 ph) c true:=by
     refine mem_partners.2 ⟨x.1,stand_get (by simp) (by rw[Zb,hi];rfl),?_⟩;rw[e,offersAt_parked_send,if_pos rfl];simp
    rw[K k c zk m]at this;cases this
end
section
variable {P:Program} {Φ:Value->World->Prop} {sy:Sy} {n0:Nat} {w0:World} {h:LH} {ws:Crew} {w:World} {t:Trace} {sl:Option (Nat×Nat)} {dz:Nat}
def dropC(h:Cells)(c:Nat):Cells:=fun r=>if r=c then none else h r
structure Spawns(P:Program)(fr:Frame)(cs:List Frame)(d:Deferred):Prop where
 step:∀ w,stepG P true (G fr cs) w=.spawn (G (fr.finish undef) cs) (G (baseOf P [d]) []) w #[]
def XT:XP where
 cond P main R:=main=true /\
  (∀ fr cs cases shape h,Receives P fr cs cases shape h->Served R fr cs cases shape h->R (G fr cs) h) /\
  (∀ fr cs h F hc d s,Spawns P fr cs d->(∀ r x,hc r=some x->x.1=false/\freezeC F h.get r=some x)->s≠[]->[]∉h.pend->(∀ y∈s,y.1∈h.chans)->Wk P (G (baseOf P [d]) []) ⟨hc,[],[],s⟩ ->
   R (G (fr.finish undef) cs) { h with get:=freezeC F h.get,pend:=h.pend++[s] }->R (G fr cs) h) /\
  (∀ g h c s,[]∉h.pend->h.get c=some (true,.chan 0 #[] false s s false)->R g { h with get:=dropC h.get c,chans:=c::h.chans }->R g h) /\
  (∀ g h c,c∈h.chans->h.pend=[]->(h.get c=none->∀ s,R g { h with get:=h.get.upd c (true,.chan 0 #[] false s s false),chans:=h.chans.filter (·≠c) })->R g h)
 stk _ _ _:=True
variable {fr:Frame}{cs:List Frame}{g:Goroutine}{c:Nat}{get:Cells}
theorem Ge(F:Nat->Bool)(a k:Cells):freezeC (fun r=>F r&&(a r).isSome) (a.add k)=(freezeC F a).add k:=by
 funext r;cases b:a r with
 | some x=>simp[freezeC,Cells.add,b]
 | none =>
  cases c:k r with
  | none=>simp[freezeC,Cells.add,b,c]
  | some x=>simp[freezeC,Cells.add,b,c]
theorem Gh:XOK XT where
 frame P main R k _ hc:=by
  obtain⟨h0,h1,h2,h3,G⟩:=hc;refine⟨h0,?_,?_,?_,?_⟩
  ·intro fr cs cases shape h hr q d;refine h1 fr cs cases shape (h.add k) ⟨hr.step,hr.recv,hr.some_,hr.heads⟩ ?_;intro pre φ s post j c v hv z hp i E p C;have d1:Disj h.get hv:=E.of_add_left;have d2:Disj k hv:=Qx d E;have e:((h.get.add hv).add k)=((h.get.add k).add hv):=Q4 d2.symm;have:=q pre φ s post j c v hv z hp i d1 p C (Disj.add d d2.symm);unfold LH.add at this;simp only[e]at this;exact this
  ·intro fr cs h F hc d s A f y m u hw o n;refine h2 fr cs (h.add k) (fun r=>F r&&(h.get r).isSome) hc d s A ?_ y m u hw ?_
   ·intro r x B;obtain⟨a,b⟩:=f r x B;refine⟨a,?_⟩;show freezeC _ (h.get.add k) r=_;rw[Ge];exact Qi b
   ·have e:freezeC (fun r=>F r&&(h.get r).isSome) (h.add k).get=(freezeC F h.get).add k:=Ge F h.get k;rw[e];refine o ?_;intro r;rcases n r with hr|hr
    ·left;simp only[freezeC,hr]
    ·exact .inr hr
  ·intro g h c s m q o n;refine h3 g (h.add k) c s m (Qi q) ?_;have H:k c=none:=by
    rcases n c with h'|h'
    ·rw[q]at h';cases h'
    ·exact h'
   have e:dropC (h.get.add k) c=(dropC h.get c).add k:=by
    funext r;unfold dropC Cells.add;by_cases e:r=c
    ·subst e;simp[H]
    ·simp[e]
   have t:Disj (dropC h.get c) k:=by
    intro r;rcases n r with hr|hr
    ·left;unfold dropC;split
     ·rfl
     ·exact hr
    ·exact .inr hr
   have:=o t;unfold LH.add at this ⊢;simp only[e];exact this
  ·intro g h c hc hp o n;refine G g (h.add k) c hc hp ?_;intro l s;have f:h.get c=none:=by
    cases B:h.get c with
    | none=>rfl
    | some x=>rw[show (h.add k).get c=some x from Qi B]at l;cases l
   have w:k c=none:=by
    have:=l;rw[show (h.add k).get c=k c from Qk f]at this;exact this
   have e:(h.get.add k).upd c (true,.chan 0 #[] false s s false)=(h.get.upd c (true,.chan 0 #[] false s s false)).add k:=by
    funext r;unfold Cells.upd Cells.add;by_cases e:r=c<;>simp[e]
   have t:Disj (h.get.upd c (true,.chan 0 #[] false s s false)) k:=by
    intro r;by_cases e:r=c
    ·right;rw[e];exact w
    ·rw[Qp _ _ e];exact n r
   have:=o f s t;unfold LH.add at this ⊢;simp only[e];exact this
 stk _ _ _ _ _ _:=trivial
 free _ _ _ _ _:=trivial
/-! ### D move of I first goroutine -/
theorem Wm(h:LH)(ws:Crew)(k:Cells)(c:List Nat)(p:List Script)(s:Script):(fun i=>if i=0 then k else cellsOf h ws i)=cellsOf ⟨k,c,p,s⟩ ws:=by
 funext i;cases i<;>simp[cellsOf]
theorem top_step{N:Goroutine->LH->Prop}(k:LStep P true (G fr cs) h N)(c:∀ g' h',N g' h'->TopD dz P n0 w0 Φ g' h'):TopD dz P n0 w0 Φ (G fr cs) h:=by
 refine drive rfl fun sy ws w sl t I=>.inl ?_;obtain⟨g',w',es,h',hgo,m,a,d⟩:=k w (I.mem.fits 0);have hm:=I.mem.step (j:=0) I.mem.pos (fun e=>e) (G fr cs).frame.fn (G fr cs).frame.place m a;rw[Wm h ws h' h.chans h.pend h.todo]at hm;refine⟨_,_,runT_crowd_go (J6 (G fr cs) ws) hgo,?_⟩;have f:OpenAt h w':=hm.chan;rw[D2 I.wk I.scripts f (by unfold woken;split;exact again_running _ (.inl rfl);rfl),G4];exact c g' { h with get:=h' } d _ ws w' sl _ ⟨hm,I.wk,I.scripts,I.pend,fun i x l=>by
  rw[Deaf_other t (g:=i+1) (g':=0) (by omega) _ (fun op b=>(Js b).1)];exact I.quit i x l,I.deep⟩
theorem top_up{k:Cells}(j:TopD dz P n0 w0 Φ g h)(d:Disj h.get k):TopD dz P n0 w0 Φ g (h.add k):=by
 intro sy ws w sl t I;refine j sy ws w sl t ⟨?_,I.wk,I.scripts,I.pend,I.quit,I.deep⟩;have hc:∀ r x,h.get r=some x->cellsOf (h.add k) ws 0 r=some x:=fun r x f=>Qi f;have:=I.mem.turn (chans':=h.chans) (k:=h.get) (fun r m o hr=>I.mem.fits 0 r m o (hc r _ hr)) (fun r b o hr=>I.mem.whole 0 r b o (hc r _ hr)) ?_ ?_
 ·rw[Wm (h.add k) ws h.get h.chans h.pend h.todo]at this;exact this
 ·rintro⟨r,q⟩ b hb;refine⟨b,?_,id⟩;unfold holdsC at hb ⊢;by_cases e:0=0/\r∈h.chans
  ·rw[if_pos e]at hb;rw[if_pos (show 0=0/\r∈(h.add k).chans from e)];exact hb
  ·rw[if_neg e]at hb;rw[if_neg (show ¬ (0=0/\r∈(h.add k).chans) from e)];simp only[if_true]at hb;cases f:h.get r with
   | none=>rw[f]at hb;cases hb
   | some x=>rw[f]at hb;rw[hc r x f];exact hb
 ·intro c a;refine⟨?_,fun i _=>I.mem.free c a i,I.mem.chan c a⟩;cases f:h.get c with
  | none=>rfl
  | some x=>have:=hc c x f;rw[I.mem.free c a 0]at this;cases this
theorem pending_append(ws:Crew)(x:Goroutine×LH):pending (ws++[x])=pending ws++cons' x.2.todo []:=by
 induction ws with
 | nil=>simp[pending]
 | cons a ws b =>
  show cons' a.2.todo (pending (ws++[x]))=cons' a.2.todo (pending ws)++_;rw[b];cases a.2.todo<;>rfl
theorem top_spawn{F:Nat->Bool}{hc:Cells}{d:Deferred}{s:Script}(A:Spawns P fr cs d)(z:∀ r x,hc r=some x->x.1=false/\freezeC F h.get r=some x)(u:s≠[])(v:∀ y∈s,y.1∈h.chans)
 (hw:Wk P (G (baseOf P [d]) []) ⟨hc,[],[],s⟩)(C:Top P n0 w0 Φ (G (fr.finish undef) cs) { h with get:=freezeC F h.get,pend:=h.pend++[s] }):Top P n0 w0 Φ (G fr cs) h:=by
 refine drive rfl fun sy ws w sl t I=>.inl ?_;refine⟨_,_,runT_crowd_spawn (J6 (G fr cs) ws) (A.step w),?_⟩;have B:MemOp.ofEvents 0 (G fr cs).frame.fn (G fr cs).frame.place #[]=#[]:=rfl;rw[B,crew_size];have l:((crew (G fr cs) ws).setIfInBounds 0 (G (fr.finish undef) cs)).push (G (baseOf P [d]) [])=crew (G (fr.finish undef) cs) (ws++[(G (baseOf P [d]) [],⟨hc,[],[],s⟩)]):=by
  rw[G4];simp[crew]
 rw[l];refine C sy _ w sl _ ⟨?_,?_,?_,?_,?_,I.deep⟩
 ·have hm:=I.mem.spawn (hc:=hc) F z (x:={ g:=0,fn:=(G fr cs).frame.fn,pos:=(G fr cs).frame.place,act:=.go (ws.length+1) }) (y:={ g:=ws.length+1,fn:=(G (baseOf P [d]) []).frame.fn,pos:=(G fr cs).frame.place,act:=.start })
   ⟨rfl,rfl⟩ ⟨rfl,rfl⟩ I.deep (gone':=goneW (ws++[(G (baseOf P [d]) [],⟨hc,[],[],s⟩)])) (by
    intro i q;cases i with
    | zero=>exact q.elim
    | succ i =>
     obtain⟨x,b,h0⟩:=q;rcases Nat.lt_or_ge i ws.length with c|o
     ·rw[List.getElem?_append_left c]at b;exact⟨x,b,h0⟩
     ·rw[List.getElem?_append_right o]at b;cases f:i-ws.length with
      | zero=>rw[f]at b;simp at b;subst b;exact absurd h0 u
      | succ n=>rw[f]at b;simp at b)
   (fun i q=>by
    cases i with
    | zero=>exact q
    | succ i =>
     obtain⟨x,b,h0⟩:=q;have c:i<ws.length:=(List.getElem?_eq_some_iff.1 b).1;exact⟨x,by rw[List.getElem?_append_left c];exact b,h0⟩) (fun h=>h) (by
    rintro⟨x,b,_⟩;rw[List.getElem?_eq_none (Nat.le_refl _)]at b;cases b)
  have k:(fun i=>if i=ws.length+1 then hc else if i=0 then freezeC F (cellsOf h ws 0) else cellsOf h ws i)=cellsOf { h with get:=freezeC F h.get,pend:=h.pend++[s] } (ws++[(G (baseOf P [d]) [],⟨hc,[],[],s⟩)]):=by
   funext i;cases i with
   | zero=>simp[cellsOf]
   | succ i =>
    rcases Nat.lt_trichotomy i ws.length with c|rfl|p
    ·simp[cellsOf,Nat.ne_of_lt c,List.getElem?_append_left c]
    ·simp[cellsOf]
    ·have h1:ws[i]?=none:=List.getElem?_eq_none (Nat.le_of_lt p);have h2:(ws++[(G (baseOf P [d]) [],(⟨hc,[],[],s⟩ : LH))])[i]?=none:=List.getElem?_eq_none (by simp;exact p);simp[cellsOf,Nat.ne_of_gt p,h1,h2]
  rw[k]at hm;rw[List.length_append];exact hm
 ·intro x b;rcases List.mem_append.1 b with b|b
  ·exact I.wk x b
  ·simp at b;subst b;exact .inl hw
 ·intro x b;rcases List.mem_append.1 b with b|b
  ·exact I.scripts x b
  ·simp at b;subst b;exact v
 ·rw[pending_append];cases s with
  | nil=>exact absurd rfl u
  | cons a s=>exact I.pend.append_right _
 ·intro i x b;rw[U4]
  ·rcases Nat.lt_or_ge i ws.length with c|o
   ·rw[List.getElem?_append_left c]at b;exact I.quit i x b
   ·rw[List.getElem?_append_right o]at b;cases f:i-ws.length with
    | zero =>
     rw[f]at b;simp at b;subst b;have e:i=ws.length:=by omega
     subst e;rw[I.mem.ti.hears (ws.length+1) (by
      rintro⟨x,b,_⟩;rw[List.getElem?_eq_none (Nat.le_refl _)]at b;cases b),I.mem.dp0 _ (Nat.succ_ne_zero _)];rfl
    | succ n=>rw[f]at b;simp at b
  ·intro op j m;rcases Array.mem_push.1 j with j|rfl
   ·rcases Array.mem_push.1 j with j|rfl
    ·simp at j
    ·exact nofun
   ·exact nofun
theorem top_open{s:Nat}(l:h.get c=some (true,.chan 0 #[] false s s false))(n:Top P n0 w0 Φ g { h with get:=dropC h.get c,chans:=c::h.chans }):Top P n0 w0 Φ g h:=by
 intro sy ws w sl t I;refine n sy ws w sl t ⟨?_,I.wk,fun x d y u=>List.mem_cons_of_mem _ (I.scripts x d y u),I.pend,I.quit,I.deep⟩;have j:∀ r x,dropC h.get c r=some x->r≠c/\h.get r=some x:=by
  intro r x d;unfold dropC at d;split at d
  ·cases d
  ·rename_i e;exact⟨e,d⟩
 have:=I.mem.turn (chans':=c::h.chans) (k:=dropC h.get c) (fun r m o hr=>I.mem.fits 0 r m o (j r _ hr).2) (fun r b o hr=>I.mem.whole 0 r b o (j r _ hr).2) ?_ ?_
 ·rw[Wm h ws _ (c::h.chans) h.pend h.todo]at this;exact this
 ·rintro⟨r,q⟩ b hb;refine⟨b,?_,id⟩;unfold holdsC at hb ⊢;by_cases e:0=0/\r∈c::h.chans
  ·rw[if_pos e]at hb;cases hb;by_cases f:0=0/\r∈h.chans
   ·rw[if_pos f]
   ·rw[if_neg f];have:r=c:=by
     rcases List.mem_cons.1 e.2 with h'|h'
     ·exact h'
     ·exact absurd ⟨rfl,h'⟩ f
    subst this;show (h.get r).map _=_;rw[l];rfl
  ·rw[if_neg e]at hb;have f:¬ (0=0/\r∈h.chans):=fun h'=>e ⟨rfl,List.mem_cons_of_mem _ h'.2⟩;rw[if_neg f];change (dropC h.get c r).map (·.1)=some b at hb;cases d:dropC h.get c r with
   | none=>rw[d]at hb;cases hb
   | some x=>rw[d]at hb;rw[show cellsOf h ws 0 r=some x from (j r x d).2];exact hb
 ·intro c' a;rcases List.mem_cons.1 a with rfl|a
  ·refine⟨by simp[dropC],fun i p=>I.mem.apart (Ne.symm p) (show cellsOf h ws 0 c'=_ from l),s,?_⟩;obtain⟨o',h1,h2⟩:=I.mem.fits 0 c' _ _ l;cases h2;exact h1
  ·refine⟨?_,fun i _=>I.mem.free c' a i,I.mem.chan c' a⟩;unfold dropC;split
   ·rfl
   ·exact I.mem.free c' a 0
theorem top_close(hc:c∈h.chans)(hp:h.pend=[])(p:h.get c=none->∀ s,Top P n0 w0 Φ g { h with get:=h.get.upd c (true,.chan 0 #[] false s s false),chans:=h.chans.filter (·≠c) }):Top P n0 w0 Φ g h:=by
 intro sy ws w sl t I;obtain⟨s,u⟩:=I.mem.chan c hc;have f:h.get c=none:=I.mem.free c hc 0;have h0:∀ x∈ws,x.2.todo=[]:=by
  intro x l;by_cases e:x.2.todo=[]
  ·exact e
  ·have:=I.pend.mem_iff.2 (K3 e l);rw[hp]at this;cases this
 refine p f s sy ws w sl t ⟨?_,I.wk,fun x l y n=>(by rw[h0 x l]at n;cases n),I.pend,I.quit,I.deep⟩;have:=I.mem.turn (chans':=h.chans.filter (·≠c)) (k:=h.get.upd c (true,.chan 0 #[] false s s false)) ?_ ?_ ?_ ?_
 ·rw[Wm h ws _ (h.chans.filter (·≠c)) h.pend h.todo]at this;exact this
 ·intro r m o hr;by_cases e:r=c
  ·subst e;rw[Qn]at hr;cases hr;exact⟨_,u,rfl⟩
  ·rw[Qp _ _ e]at hr;exact I.mem.fits 0 r m o hr
 ·intro r m o hr;by_cases e:r=c
  ·subst e;rw[Qn]at hr;cases hr;exact fun _=>id
  ·rw[Qp _ _ e]at hr;exact I.mem.whole 0 r m o hr
 ·rintro⟨r,q⟩ b hb;unfold holdsC at hb ⊢;by_cases e:r=c
  ·subst e;rw[if_pos ⟨rfl,hc⟩];exact⟨true,rfl,fun _=>rfl⟩
  ·refine⟨b,?_,id⟩;by_cases a:0=0/\r∈h.chans
   ·rw[if_pos a];rw[if_pos ⟨rfl,List.mem_filter.2 ⟨a.2,by simpa using e⟩⟩]at hb;exact hb
   ·rw[if_neg a];rw[if_neg (fun h'=>a ⟨rfl,(List.mem_filter.1 h'.2).1⟩)]at hb;simp only[if_true,Qp _ _ e]at hb;exact hb
 ·intro c' d;obtain⟨h1,h2⟩:=List.mem_filter.1 d;have j:c'≠c:=by simpa using h2
  exact⟨by rw[Qp _ _ j];exact I.mem.free c' h1 0,fun i _=>I.mem.free c' h1 i,I.mem.chan c' h1⟩
theorem top_closed(P:Program)(n0:Nat)(w0:World)(Φ:Value->World->Prop):Closed XT P true (Top P n0 w0 Φ) :=
 ⟨⟨fun _ _ _ _ g h=>top_step g h,fun _ _ _ i d=>top_up i d⟩,rfl,fun _ _ _ _ _ hr g=>top_recv hr g,fun _ _ _ _ _ _ _ a b c _ d e f=>top_spawn a b c d e f,fun _ _ _ _ _ a b=>top_open a b,fun _ _ _ a b c=>top_close a b c⟩
theorem runT_crowd_ended{gs:Array Goroutine}{i:Nat}{o:Outcome}{w':World}{es:Array Event}(c:gs[i]?=some g)(h:stepG P (i==0) g w=.ended o w' es) :
  runT P (crowd gs w sl) i=(.ended o w',MemOp.ofEvents i g.frame.fn g.frame.place es):=by
 obtain⟨a,rfl⟩:=Array.getElem?_eq_some_iff.1 c;have b:=swapAt_of_lt a { (default:Goroutine) with status:=.finished };show runT P { world:=w,gs:=gs,rest:={ timers:=#[],alone:=none,slice:=sl } } i=_;unfold runT;simp only[b,h,GStep.es]
structure KeptW(n0:Nat)(w0 w:World):Prop where
 base:∀ r,r<n0->w.heap[r]?=w0.heap[r]?
 size:n0<=w.heap.size
 os:w.os=w0.os
 tape:w.tape=w0.tape
 output:w.output=w0.output
theorem top_ret{v:Value}(hr:Ret P .normal fr v h.get)(k:P.inits.idxOf? fr.fn=none)(hp:h.pend=[])(n:∀ w',Fits h.get w'->KeptW n0 w0 w'->Φ v w'):Top P n0 w0 Φ (G fr []) h:=by
 refine drive rfl fun sy ws w sl t I=>.inr ?_;obtain⟨r1,r2,r3,fn,r4,r5⟩:=hr;obtain⟨w',h',c,p,f,r⟩:=Zo P _ _ _ h.get w #[] (I.mem.fits 0) r5;rcases r with⟨o,a,rfl,rfl⟩|⟨e,a,q⟩
 ·rw[Array.empty_append]at a;have b:((results fn fr.tmps).runT P w #[]).1=.ok o w':=by rw[a]
  simp only[Sem.runT_fst]at b;have d:Sem.events P (results fn fr.tmps) w #[]=c:=by show ((results fn fr.tmps).runT P w #[]).2=c;rw[a]
  have m:stepG P (0==0) (G fr []) w=.ended (.done o) w' (seen P fr.fn c):=by
   simp[G,stepG,unwind,r1,r2,r4,b,d,GStep.after,doReturn,r3,k]
  have hm:=I.mem.step (j:=0) I.mem.pos (fun e=>e) (G fr []).frame.fn (G fr []).frame.place p (es:=seen P fr.fn c) (fun e he=>f e (Z7 he));exact⟨o,w',_,runT_crowd_ended (J6 (G fr []) ws) m,n w' p.fits ⟨hm.base,hm.size,hm.os,hm.tape,hm.output⟩,hp,⟨_,_,_,hm.ti⟩,fun i x s=>by
   rw[Deaf_other t (g:=i+1) (g':=0) (by omega) _ (fun op l=>(Js l).1)];exact I.quit i x s⟩
 ·exact q.elim
theorem top_start{w0:World}(u:Fits get w0)(s:∀ r x,get r=some x->x.1=false)(t:∀ r b o,get r=some (b,o)->∀ i,¬ isHole o i)
 (v:Top P w0.heap.size w0 Φ g ⟨get,[],[],[]⟩):EndsWell P Φ (solo g w0) #[]:=by
 have a:∀ g (k:Key),holdsC [] (cellsOf ⟨get,[],[],[]⟩ []) g k≠some true:=by
  rintro g ⟨r,q⟩ d;unfold holdsC at d;simp only[List.not_mem_nil,and_false,if_false]at d;cases g with
  | zero =>
   cases e:get r with
   | none=>simp[cellsOf,e]at d
   | some x =>
    simp[cellsOf,e]at d;have:=s r x e;rw[d]at this;cases this
  | succ g=>simp[cellsOf]at d
 have f:∀ p k b,¬ Touches (#[]:Trace) p k b:=by
  rintro p k b ⟨op,x,hp,_⟩;simp at hp
 let sy:Sy:=⟨fun _=>False,fun _ _=>False,fun _=>0⟩
 refine v sy [] w0 none #[] ⟨⟨?_,?_,fun _ _=>rfl,⟨?_,?_,fun _ h=>h.elim,?_,?_,?_,?_,?_,?_,fun _ _ _ _ _ h=>h.elim,?_,fun _ _ h=>h.elim,?_,fun op l=>by simp at l⟩,?_,?_,?_,Nat.one_pos,fun _ _=>rfl,?_,Nat.le_refl _,rfl,rfl,rfl⟩,?_,?_,List.Perm.refl _,?_,rfl⟩
 ·intro j;cases j with
  | zero=>exact u
  | succ j=>intro r m o hr;simp[cellsOf]at hr
 ·intro j r b o hr;cases j with
  | zero=>exact t r b o hr
  | succ j=>simp[cellsOf]at hr
 ·intro g _;rfl
 ·intro op l;simp at l
 ·intro p k b n;exact absurd n (f p k b)
 ·rintro g ⟨r,q⟩ b hb;refine⟨?_,fun h=>h⟩;unfold holdsC at hb;simp only[List.not_mem_nil,and_false,if_false]at hb;cases g with
  | zero =>
   cases e:get r with
   | none=>simp[cellsOf,e]at hb
   | some x=>exact Fits.lt u e
  | succ g=>simp[cellsOf]at hb
 ·intro g g' k _ d;exact absurd d (a g k)
 ·intro g k d;exact absurd d (a g k)
 ·intro g k b _ p n;exact absurd n (f p k true)
 ·intro i j k b y _ _ n;exact absurd n (f i k b)
 ·intro p op x hp;simp at hp
 ·intro g _ p op hp;simp at hp
 ·intro c hc;cases hc
 ·intro c hc;cases hc
 ·intro j w r;cases j with
  | zero=>exact absurd w (Nat.not_le.2 Nat.one_pos)
  | succ j=>simp[cellsOf]
 ·intro j k d;exact absurd d (a j k)
 ·intro x e;cases e
 ·intro x e;cases e
 ·intro i x e;simp at e
theorem run_well{f:FuncId}{args:Array Value}{w0:World}{Q:Value->LH->Prop}(m:Fits get w0)(g:∀ r x,get r=some x->x.1=false)(j:∀ r b o,get r=some (b,o)->∀ i,¬ isHole o i)(e:P.inits.idxOf? f=none)
 (c:FWK XT P .normal f args ⟨get,[],[],[]⟩ Q)(n:∀ v h',Q v h'->h'.pend=[]/\∀ w',Fits h'.get w'->KeptW w0.heap.size w0 w'->Φ v w'):EndsWell P Φ (solo (G (Frame.enter P f args .normal) []) w0) #[]:=by
 have p:Top P w0.heap.size w0 Φ (G (Frame.enter P f args .normal) []) ⟨get,[],[],[]⟩:=by
  refine c.2 true _ (top_closed P _ w0 Φ) [] trivial ?_;intro fr v h' k a d hr t;obtain⟨hp,l⟩:=n v h' t;exact top_ret (h:=h'.add k) hr (by rw[a];exact e) hp fun w' q s=>l w' q.left s
 exact top_start m g j p
end
section
def getW(W:World):Cells:=fun r=>match W.heap[r]? with
 | some (.pending _ _)=>none
 | some o=>some (false,o)
 | none=>none
variable {W:World}{r:Nat}{a:Addr}
theorem Yp{m:Bool}{o:Obj}(h:getW W r=some (m,o)):m=false/\W.heap[r]?=some o/\∀ c e,o≠.pending c e:=by
 unfold getW at h;split at h
 ·cases h
 ·rename_i o' a he;cases h;exact⟨rfl,he,fun c e hp=>a c e hp⟩
 ·cases h
theorem getW_fits(W:World):Fits (getW W) W:=by
 intro r m o h;obtain⟨_,h1,h2⟩:=Yp h;refine⟨o,h1,?_⟩;cases o with
 | pending c e=>exact absurd rfl (h2 c e)
 | _=>exact rfl
theorem getW_no(W:World):∀ r x,getW W r=some x->x.1=false:=by
 rintro r ⟨m,o⟩ h;exact(Yp h).1
theorem getW_whole(W:World):∀ r b o,getW W r=some (b,o)->∀ i,¬ isHole o i:=by
 intro r b o h i;have h2:=(Yp h).2.2;cases o with
 | pending c e=>exact absurd rfl (h2 c e)
 | _=>exact id
theorem getW_of{c:Array Value}{e:TypeId}{f:Nat×Nat}(h:W.heap[r]?=some (.cells c e f)):getW W r=some (false,.cells c e f):=by
 unfold getW;rw[h]
theorem Kj{v:Value}(h:W.cell? a=some v):(getW W).cell? a=some v:=by
 unfold World.cell? at h;split at h
 ·rename_i c t f he;unfold Cells.cell?;rw[getW_of he];exact h
 ·cases h
theorem mapM_at{α:Type}{f:Nat->Option α}:∀ {l:List Nat} {r:List α},l.mapM f=some r->r.length=l.length/\∀ (i:Nat) y,r[i]?=some y->∃ j,l[i]?=some j/\f j=some y:=by
 intro l
 induction l with
 | nil=>intro r h;simp at h;subst h;exact⟨rfl,fun i y c=>by simp at c⟩
 | cons a asq g =>
  intro r h;rw[List.mapM_cons]at h;cases d:f a with
  | none=>simp[d]at h
  | some b =>
   cases has:asq.mapM f with
   | none=>simp[d,has]at h
   | some bs =>
    simp[d,has]at h;subst h;obtain⟨h1,h2⟩:=g has;refine⟨by simp[h1],fun i y c=>?_⟩;cases i with
    | zero=>simp at c;subst c;exact⟨a,rfl,d⟩
    | succ i=>obtain⟨j,e⟩:=h2 i y (by simpa using c);exact⟨j,by simpa using e.1,e.2⟩
theorem cells_at{base n:Nat}{cs:List Value}(h:W.cells? base a n=some cs):cs.length=n/\∀ (i:Nat) v,cs[i]?=some v->(getW W).cell? (a.add i)=some v:=by
 unfold World.cells? at h;split at h
 ·obtain⟨h1,h2⟩:=mapM_at h;refine⟨by simpa using h1,fun i v hv=>?_⟩;obtain⟨j,b,hc⟩:=h2 i v hv;have:j=i:=by
   have:=List.getElem?_eq_some_iff.1 b;obtain⟨_,e⟩:=this;simpa using e.symm
  rw[this]at hc;exact Kj hc
 ·cases h
section
variable {H:Type} {enc:TypeId×Value->H} {P:Program} {W:World} {base:Nat} {sp:Nat->Bool} {held:Bool} {fuel:Nat} {t:TypeId} {cs:List Value} {x:DataW H×List MemPlace}
def Light(P:Program)(t:TypeId)(d:DataW H):Prop:=∀ n∈d.weights P t,n<=reachBytes
theorem weightsAll_mem{e:TypeId}:∀ {l:List (DataW H)} {d:DataW H},d∈l->∀ n∈d.weights P e,n∈DataW.weightsAll P e l
 | d0::l,d,a,n,b=>by
  simp only[DataW.weightsAll,List.mem_append];rcases List.mem_cons.1 a with rfl|a
  ·exact .inl b
  ·exact .inr (weightsAll_mem a n b)
def U3(P:Program)(t:TypeId)(l:List (TypeId×Nat)):Prop:=∃ fs,P.underlying t=some (.struct fs)/\fs.toList.map (fun f=>(f.type,f.offset))=l
theorem field_of{l:List (TypeId×Nat)}(o:U3 P t l)(s:Light P t x.1)(h:DataW.trod enc P W base sp held fuel t cs=some x) :
  cs.length=P.cellsOf t/\∃ n:Nat,∀ (i:Nat) (ti:TypeId) (m:Nat),l[i]?=some (ti,m)->∃ y,DataW.trod enc P W base sp held n ti ((cs.drop m).take (P.cellsOf ti))=some y/\Light P ti y.1:=by
 obtain⟨fs,hu,rfl⟩:=o;obtain⟨xs,n,_,rfl,q,r,c⟩:=DataW.trod_struct hu h;refine⟨q,n,fun i ti m g=>?_⟩;rw[List.getElem?_map]at g;cases a:fs.toList[i]? with
 | none=>simp[a]at g
 | some f =>
  simp[a]at g;obtain⟨rfl,rfl⟩:=g;have b:fs[i]?=some f:=by simpa using a
  have e:i<xs.length:=by rw[r];exact(Array.getElem?_eq_some_iff.1 b).1
  refine⟨xs[i],by rw[c i f b,List.getElem?_eq_getElem e],fun k p=>s k ?_⟩;unfold DataW.weights;rw[hu];exact DataW.weights_mem_each (j:=i) (t:=f.type) (d:=xs[i].1) (by simp[a]) (by simp[List.getElem?_eq_getElem e]) k p
variable {tI tIs tSpan tSpans tPaper tPapers tReq tReqs tFile:TypeId}
theorem agg_of{cs:Array Value}{l:List Value}(h:(Value.agg cs).cells.toList=l):Value.agg cs=.agg l.toArray:=by
 have e:cs.toList=l:=h;rw[<- e]
end
theorem KeptW.below{w0 w:World}(k:KeptW w0.heap.size w0 w):Go.RowKit.Below w0.heap.size w0 w:=⟨k.os,k.tape,k.output,k.size,k.base⟩
end
end Go.TM
