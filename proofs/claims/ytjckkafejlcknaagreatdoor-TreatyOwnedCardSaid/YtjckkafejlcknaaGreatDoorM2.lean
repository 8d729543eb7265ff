/- Contracts and laws for the proof, joined by a program. No condition. -/
import Derived.Test.YtjckkafejlcknaaGreatDoorM1
set_option linter.all false
noncomputable section
open Go Go.Conc
namespace Go.TM
section
section
variable {X:XP} {C:Ctx} {main:Bool} {R:Goroutine->LH->Prop} {cs:List Frame} {fn:FI} {ds:List Deferred} {rd:Option Nat} {Q:Leaf->LH->Prop}
def exed(Lm:Nat->Bool)(pend:List PE):List PE:=pend.filter fun p=>Lm p.i
theorem mem_exed{Lm:Nat->Bool}{pend:List PE}{p:PE}:p∈exed Lm pend↔p∈pend/\Lm p.i=true:=by simp[exed]
structure DI(X:XP)(C:Ctx)(ro:List Nat)(PB:Nat->Prop)(ops:Array Oper)(Lm:Nat->Bool)(L:List Nat)(e:Env)(pend:List PE)(σ:Nat->Nat)(tmps:Array Value)(hp:Cells)(h:LH):Prop where
 sub:∀ i∈L,Lm i=true
 sup:∀ i,Lm i=true->i∈L\/i∈idxL pend
 sim:Sim σ ro PB (penvE (exed Lm pend) e) tmps hp
 ops_:∀ p∈pend,ops[p.i]?=some p.o/\p.o.dst=some p.d
 good:∀ p∈pend,p.d<4096/\p.d<tmps.size/\p.a≠.bad
 apart:Apart pend
 looks:∀ p∈pend,∀ p'∈pend,p'.d∈looksL ops p.o->p'.i∈predsOf p.o
 gone:∀ p∈pend,e.get p.d=none
 prom:∀ p∈pend,Prom X C ro ops (penvE pend e) p h
theorem Apart.exed{l:List PE}(h:Apart l)(Lm:Nat->Bool):Apart (exed Lm l):=h.filter _
theorem lookup_same{l l':List PE}{e e':Env}(ha:Apart l)(ha':Apart l'){s:Nat}(h1:∀ p∈l,p.d=s->p∈l')(h2:∀ p∈l',p.d=s->p∈l)(he:e.get s=e'.get s):(penvE l e).get s=(penvE l' e').get s:=by
 by_cases hx:∃ p∈l,p.d=s
 ·obtain⟨p,hp,rfl⟩:=hx;rw[penvE_some ha hp,penvE_some ha' (h1 p hp rfl)]
 ·rw[penvE_none (fun p hp e=>hx ⟨p,hp,e⟩),penvE_none (fun p hp e=>hx ⟨p,h2 p hp e,e⟩),he]
theorem seenOk_spec{lk pr:List Nat}:∀ {l:List PE},seenOk lk pr l=true->∀ p∈l,p.d∈lk->p.i∈pr:=by
 intro l
 induction l with
 | nil=>intro _ p hp;cases hp
 | cons q l ih =>
  intro h p hp hl;rw[seenOk]at h;simp only[Bool.and_eq_true,Bool.or_eq_true,Bool.not_eq_true',memN_false,memN_iff]at h;rcases List.mem_cons.1 hp with rfl|hp
  ·rcases h.1 with h'|h'
   ·exact absurd hl h'
   ·exact h'
  ·exact ih h.2 p hp hl
theorem unseen_spec{ops:Array Oper}{d:Nat}:∀ {l:List PE},unseen ops d l=true->∀ p∈l,d∉looksL ops p.o:=by
 intro l
 induction l with
 | nil=>intro _ p hp;cases hp
 | cons q l ih =>
  intro h p hp;rw[unseen]at h;simp only[Bool.and_eq_true,Bool.not_eq_true',memN_false]at h;rcases List.mem_cons.1 hp with rfl|hp
  ·exact h.1
  ·exact ih h.2 p hp
theorem okRest_spec{dst:Option Tmp}{e:Env}:∀ {l:List PE},okRest dst e l=true->∀ p∈l,e.get p.d=none/\∀ d,dst=some d->d≠p.d/\∀ k j,p.a=.pp k j->k≠d:=by
 intro l
 induction l with
 | nil=>intro _ p hp;cases hp
 | cons q l ih =>
  intro h p hp;simp only[okRest,Bool.and_eq_true]at h;rcases List.mem_cons.1 hp with rfl|hp
  ·refine⟨?_,fun d hd=>?_⟩
   ·have:=h.1.1;cases hg:e.get p.d with
    | none=>rfl
    | some a=>rw[hg]at this;cases this
   ·have:=h.1.2;rw[hd]at this;simp only[Bool.and_eq_true,Bool.not_eq_true']at this;refine⟨nbeq_false this.1,fun k j ha=>?_⟩;have h2:=this.2;rw[ha]at h2;exact nbeq_false h2
  ·exact ih h.2 p hp
theorem Sim.addL{σ:Nat->Nat}{ro:List Nat}{PB:Nat->Prop}{e:Env}{tmps:Array Value}{hp:Cells}(s:Sim σ ro PB e tmps hp):∀ (l:List PE),(∀ p∈l,p.d<4096/\tmps[p.d]?=some (conc σ p.a))->Sim σ ro PB (penvE l e) tmps hp:=by
 intro l
 induction l with
 | nil=>intro _;exact s
 | cons p l ih=>intro h;exact(ih fun q hq=>h q (by simp[hq])).addSlot (h p (by simp)).1 fun _=>(h p (by simp)).2
theorem upto_eq:∀ (n j:Nat),upto j n=(List.range n).map (j+·):=by
 intro n
 induction n with
 | zero=>intro j;rfl
 | succ n ih =>
  intro j;rw[upto,ih,List.range_succ_eq_map];simp only[List.map_cons,List.map_map,Nat.add_zero];congr 1;apply List.map_congr_left;intro a _;simp only[Function.comp_apply,Nat.succ_eq_add_one];omega
theorem mem_upto0{n i:Nat}:i∈upto 0 n↔i<n:=by rw[upto_eq];simp
theorem drawT_sound(hX:XOK X)(hR:Closed X C.P main R)(hst:X.stk C.P fn.kd cs){k:List Item}{ops:Array Oper}{ro:List Nat}{PB:Nat->Prop}{kE:Env->T}{D:List Nat}{N:Nat}
 (hD:∀ (i:Nat) (o:Oper),ops[i]?=some o->∀ d,o.dst=some d->d∈D/\d<N/\d<4096)(hE:edgesOk 0 ops.toList=true) :
  ∀ {Lm:Nat->Bool} {l:List Nat},Ord ops Lm l->∀ (n:Nat) (L:List Nat) (e:Env) (pend:List PE) (σ:Nat->Nat) (tmps:Array Value) (hp:Cells) (h:LH),DI X C ro PB ops Lm L e pend σ tmps hp h->tmps.size=N->Disj h.get hp->(∀ b,PB b->∃ x,hp b=some x) ->
   (drawT C ro ops (upto 0 ops.size) n L e pend kE).wp X C.P Q h->Behind X C.P R fn ds rd cs k D ro PB σ tmps hp kE Q->R (G (mkF fn ds rd tmps (.inRegion ops l::k)) cs) (h.add hp):=by
 intro Lm l hO
 induction hO with
 | nil Lm hn =>
  intro n
  induction n with
  | zero=>intro L e pend σ tmps hp h I hN dj hPB hT hk;exact hT.elim
  | succ n ihn =>
   intro L e pend σ tmps hp h I hN dj hPB hT hk;have hfull:=Ord.full hE (.nil Lm hn);rw[drawT]at hT;split at hT
   ·-- no float is left: all has been carried out
    rename_i i o d hpick;obtain⟨ho,hnd,_⟩:=pickF_some hpick;rcases I.sup i (hfull i o ho) with h1|h1
    ·exact absurd (by rw[appL_eq];exact List.mem_append.2 (.inr h1)) hnd
    ·exact absurd (by rw[appL_eq];exact List.mem_append.2 (.inl h1)) hnd
   ·split at hT
    ·split at hT
     ·have hex:exed Lm pend=pend:=by
       unfold exed;rw[List.filter_eq_self];intro p hp';exact hfull p.i p.o (I.ops_ p hp').1
      have s:=I.sim;rw[hex]at s;exact mv_regionEnd hR.1 (hk _ tmps σ hp h s dj Fr.refl hT)
     ·exact hT.elim
    ·rename_i hs hne;exfalso;cases hr:readyL ops (appL (idxL pend) L) (upto 0 ops.size) with
     | nil=>exact hne hr
     | cons j js =>
      have hj:j∈readyL ops (appL (idxL pend) L) (upto 0 ops.size):=by rw[hr];simp
      obtain⟨o,ho,hnd,_⟩:=isReady_iff.1 (mem_readyL.1 hj).2;rcases I.sup j (hfull j o ho) with h1|h1
      ·exact absurd (by rw[appL_eq];exact List.mem_append.2 (.inr h1)) hnd
      ·exact absurd (by rw[appL_eq];exact List.mem_append.2 (.inl h1)) hnd
 | cons Lm i o l ho hLi hpr hO ihO =>
  intro n
  induction n with
  | zero=>intro L e pend σ tmps hp h I hN dj hPB hT hk;exact hT.elim
  | succ n ihn =>
   intro L e pend σ tmps hp h I hN dj hPB hT hk;have hdst:∀ d,o.dst=some d->d<tmps.size/\d<4096:=fun d hd=>by rw[hN];exact(hD i o ho d hd).2
   have hdD:∀ d,d∈o.dst.toList->d∈D:=fun d hd=>(hD i o ho d (by simpa using hd)).1;by_cases hin:i∈idxL pend
   ·-- a promised operation is carried out
    obtain⟨p,hpm,hpi⟩:=mem_idxL.1 hin;have hpo:p.o=o:=by have:=(I.ops_ p hpm).1;rw[hpi,ho]at this;cases this;rfl
    have hpd:o.dst=some p.d:=by rw[<- hpo];exact(I.ops_ p hpm).2
    have hprom:=I.prom p hpm;rw[Prom,hpo]at hprom;have agree:∀ s∈looksL ops o,(penvE (exed Lm pend) e).get s=(penvE pend e).get s:=by
     intro s hs;refine lookup_same (I.apart.exed _) I.apart (fun q hq _=>(mem_exed.1 hq).1) (fun q hq hqs=>?_) rfl;refine mem_exed.2 ⟨hq,hpr _ ?_⟩;rw[<- hpo];exact I.looks p hpm q hq (by rw[hqs,hpo];exact hs)
    have agree4:∀ s,4096<=s->(penvE (exed Lm pend) e).get s=(penvE pend e).get s:=by
     intro s hs;rw[penvE_none (fun q hq e'=>absurd (I.good q (mem_exed.1 hq).1).1 (by rw[e'];exact Nat.not_lt.2 hs)),penvE_none (fun q hq e'=>absurd (I.good q hq).1 (by rw[e'];exact Nat.not_lt.2 hs))]
    have hT':=hprom (penvE (exed Lm pend) e) (fun E''=>.need (∃ tail:Env,E''=(p.d,p.a)::tail/\∀ s,tail.get s=(penvE (exed Lm pend) e).get s) (.mem (fun h''=>h''=h) (.leaf (.ret undef)))) (fun _ _=>True) agree agree4
     (fun tail' ht=>⟨⟨tail',rfl,ht⟩,rfl,trivial⟩)
    refine guardT_sound hX hR hst (by intro hf;cases hf) ho hdst I.sim dj hPB hT' ?_;rintro E'' tmps' σ' hp' h' s' dj' f' ⟨⟨tail,rfl,htail⟩,rfl,_⟩;have hpna:∀ q∈pend,q.d=p.d->q=p:=fun q hq e'=>I.apart.dst hq hpm e';have hexed:∀ q,q∈exed (fun x=>Nat.beq x i||Lm x) pend↔q∈pend/\(q=p\/Lm q.i=true):=by
     intro q;rw[mem_exed];refine and_congr_right fun hq=>?_;simp only[Bool.or_eq_true];constructor
     ·rintro(h1|h1)
      ·exact .inl (I.apart.idx hq hpm (by rw[nbeq_true h1,hpi]))
      ·exact .inr h1
     ·rintro(rfl|h1)
      ·exact .inl (by rw[hpi];exact nbeq_self i)
      ·exact .inr h1
    have s2:Sim σ' ro PB (penvE (exed (fun x=>Nat.beq x i||Lm x) pend) e) tmps' hp':=by
     refine s'.weak fun t a ht=>?_;rw[Env.get_cons];by_cases e1:p.d=t
     ·subst e1;rw[if_pos rfl];rw[penvE_some (I.apart.exed _) ((hexed p).2 ⟨hpm,.inl rfl⟩)]at ht;exact ht
     ·rw[if_neg e1,htail];rw[<- ht];refine lookup_same (I.apart.exed _) (I.apart.exed _) (fun q hq hqs=>?_) (fun q hq hqs=>?_) rfl
      ·exact(hexed q).2 ⟨(mem_exed.1 hq).1,.inr (mem_exed.1 hq).2⟩
      ·obtain⟨h1,h2⟩:=(hexed q).1 hq;rcases h2 with rfl|h2
       ·exact absurd hqs e1
       ·exact mem_exed.2 ⟨h1,h2⟩
    refine ihO (n+1) L e pend σ' tmps' hp' h' ⟨fun x hx=>by simp[I.sub x hx],?_,s2,I.ops_,fun q hq=>by rw[f'.size];exact I.good q hq,I.apart,I.looks,I.gone,I.prom⟩ (by rw[f'.size];exact hN) dj' (fun b hb=>by rw[f'.prot b hb];exact hPB b hb) hT ?_
    ·intro x hx;simp only[Bool.or_eq_true]at hx;rcases hx with hx|hx
     ·right;rw[nbeq_true hx];exact hin
     ·exact I.sup x hx
    ·intro e'' t'' σ'' hp'' h'' s'' dj'' f'' hT'';exact hk e'' t'' σ'' hp'' h'' s'' dj'' (f'.trans f'' hdD (fun _ h=>h)) hT''
   ·have hiL:i∉L:=fun hx=>by rw[I.sub i hx]at hLi;cases hLi
    have hnd:i∉appL (idxL pend) L:=by rw[appL_eq,List.mem_append];exact fun h1=>h1.elim hin hiL
    have hpd:∀ j∈predsOf o,j∈appL (idxL pend) L:=by
     intro j hj;rw[appL_eq,List.mem_append];exact(I.sup j (hpr j hj)).symm
    rw[drawT]at hT;split at hT
    ·-- a float is promised
     rename_i i' o' d' hpick;obtain⟨ho',hnd',hpr',hf',hd'⟩:=pickF_some hpick;split at hT
     ·rename_i hchk;simp only[Bool.and_eq_true,Bool.not_eq_true',memN_false]at hchk;obtain⟨⟨⟨c1,c2⟩,c3⟩,c4⟩:=hchk;obtain⟨a,tail,htail,h1,re⟩:=guard_re hf' hd' hT;obtain⟨hbad,h2⟩:=headT_wp h1;have h2:=splitA_wp hbad h2;have hdd:=hD i' o' ho' d' hd';have hLi':Lm i'=false:=by
       cases hb:Lm i' with
       | false=>rfl
       | true =>
        rcases I.sup i' hb with h'|h'
        ·exact absurd (by rw[appL_eq];exact List.mem_append.2 (.inr h')) hnd'
        ·exact absurd (by rw[appL_eq];exact List.mem_append.2 (.inl h')) hnd'
      have hmask:∀ s,s≠d'->(Env.keep (fun s=>!Nat.beq s d') e).get s=e.get s:=by
       intro s hs;rw[Env.get_keep,if_pos (by rw[nbeq_ne hs];rfl)]
      have hmask':(Env.keep (fun s=>!Nat.beq s d') e).get d'=none:=by
       rw[Env.get_keep,if_neg (by rw[nbeq_self];simp)]
      have hpd':∀ q∈pend,q.d≠d':=fun q hq e'=>c3 (mem_dstL.2 ⟨q,hq,e'⟩);have hap:Apart (⟨i',o',d',a⟩::pend):=by
       refine List.Pairwise.cons (fun q hq=>⟨fun e'=>hpd' q hq e'.symm,fun e'=>?_⟩) I.apart;exact hnd' (by rw[appL_eq];exact List.mem_append.2 (.inl (mem_idxL.2 ⟨q,hq,e'.symm⟩)))
      have hex:exed Lm (⟨i',o',d',a⟩::pend)=exed Lm pend:=by unfold exed;rw[List.filter_cons];simp[hLi']
      have hEnew:∀ s,s≠d'->(penvE (⟨i',o',d',a⟩::pend) (Env.keep (fun s=>!Nat.beq s d') e)).get s=(penvE pend e).get s:=by
       intro s hs;rw[penvE,Env.get_cons,if_neg (Ne.symm hs)];exact lookup_same I.apart I.apart (fun q hq _=>hq) (fun q hq _=>hq) (hmask s hs)
      refine ihn L _ (⟨i',o',d',a⟩::pend) σ tmps hp h ⟨I.sub,?_,?_,?_,?_,hap,?_,?_,?_⟩ hN dj hPB h2 hk
      ·intro x hx;rcases I.sup x hx with h'|h'
       ·exact .inl h'
       ·exact .inr (by simp[idxL,h'])
      ·rw[hex];refine I.sim.weak fun t b ht=>?_;by_cases hx:∃ q∈exed Lm pend,q.d=t
       ·obtain⟨q,hq,rfl⟩:=hx;rw[penvE_some (I.apart.exed _) hq]at ht ⊢;exact ht
       ·have hno:∀ q∈exed Lm pend,q.d≠t:=fun q hq e'=>hx ⟨q,hq,e'⟩;rw[penvE_none hno]at ht ⊢;by_cases et:t=d'
        ·rw[et,hmask']at ht;cases ht
        ·rw[hmask t et]at ht;exact ht
      ·intro q hq;rcases List.mem_cons.1 hq with rfl|hq
       ·exact⟨ho',hd'⟩
       ·exact I.ops_ q hq
      ·intro q hq;rcases List.mem_cons.1 hq with rfl|hq
       ·exact⟨hdd.2.2,by rw[hN];exact hdd.2.1,hbad⟩
       ·exact I.good q hq
      ·intro q hq q' hq' hl;rcases List.mem_cons.1 hq with rfl|hq<;>rcases List.mem_cons.1 hq' with rfl|hq'
       ·exact absurd hl c4
       ·exact seenOk_spec c1 q' hq' hl
       ·exact absurd hl (unseen_spec c2 q hq)
       ·exact I.looks q hq q' hq' hl
      ·intro q hq;rcases List.mem_cons.1 hq with rfl|hq
       ·exact hmask'
       ·rw[hmask _ (hpd' q hq)];exact I.gone q hq
      ·intro q hq;have ge:∀ s,4096<=s->s≠d':=fun s hs e'=>absurd hdd.2.2 (by rw[<- e'];exact Nat.not_lt.2 hs);rcases List.mem_cons.1 hq with rfl|hq
       ·intro E' k' Q' hl hp4 hk';exact re E' k' Q' (fun s hs=>(hl s hs).trans (hEnew s fun e'=>c4 (e'▸hs))) (fun s hs=>(hp4 s hs).trans (hEnew s (ge s hs))) hk'
       ·intro E' k' Q' hl hp4 hk';exact I.prom q hq E' k' Q' (fun s hs=>(hl s hs).trans (hEnew s fun e'=>unseen_spec c2 q hq (e'▸hs))) (fun s hs=>(hp4 s hs).trans (hEnew s (ge s hs))) hk'
     ·exact hT.elim
    ·-- the operation is one of the ready ones
     have hready:i∈readyL ops (appL (idxL pend) L) (upto 0 ops.size):=mem_readyL.2 ⟨mem_upto0.2 (Array.getElem?_eq_some_iff.1 ho).1,isReady_iff.2 ⟨o,ho,hnd,hpd⟩⟩;split at hT
     ·rename_i hnil;rw[hnil]at hready;cases hready
     ·have hTi:=bothL_wp hT i hready;simp only[ho]at hTi;obtain⟨sp1,sp2,sp3⟩:=splitP_spec (pr:=predsOf o) (l:=pend);obtain⟨ap1,ap2⟩:=sp3 I.apart;generalize hconf:(splitP (predsOf o) pend).1=conf at hTi sp1 ap1;generalize hrest:(splitP (predsOf o) pend).2=rest at hTi sp2 ap2;have hcs:Sim σ ro PB (penvE conf e) tmps hp:=by
       refine I.sim.weak fun t b ht=>?_;by_cases hx:∃ q∈conf,q.d=t
       ·obtain⟨q,hq,rfl⟩:=hx;rw[penvE_some ap1 hq]at ht;rw[penvE_some (I.apart.exed _) (mem_exed.2 ⟨((sp1 q).1 hq).1,hpr _ ((sp1 q).1 hq).2⟩)];exact ht
       ·have hno:∀ q∈conf,q.d≠t:=fun q hq e'=>hx ⟨q,hq,e'⟩;rw[penvE_none hno]at ht;rw[penvE_none];exact ht;intro q hq e';rw[<- e',I.gone q (mem_exed.1 hq).1]at ht;cases ht
      refine guardT_sound hX hR hst (by intro hf;cases hf) ho hdst hcs dj hPB hTi ?_;intro e' tmps' σ' hp' h' s' dj' f' hT';simp only at hT';split at hT'
      ·rename_i hok;have hokr:=okRest_spec hok;obtain⟨hprom,hT2⟩:=rechk_wp (fun p hp'=>(I.ops_ p ((sp2 p).1 hp').1).2) hT';have hij:∀ q∈pend,q.i≠i:=fun q hq e1=>hin (mem_idxL.2 ⟨q,hq,e1⟩);refine ihO n (i::appL (idxL conf) L) e' rest σ' tmps' hp' h' ⟨?_,?_,?_,fun q hq=>I.ops_ q ((sp2 q).1 hq).1,fun q hq=>by rw[f'.size];exact I.good q ((sp2 q).1 hq).1,ap2,fun q hq q' hq'=>I.looks q ((sp2 q).1 hq).1 q' ((sp2 q').1 hq').1,fun q hq=>(hokr q hq).1,hprom⟩ (by rw[f'.size];exact hN) dj' (fun b hb=>by rw[f'.prot b hb];exact hPB b hb) hT2 ?_
       ·intro x hx;simp only[Bool.or_eq_true];rcases List.mem_cons.1 hx with rfl|hx
        ·exact .inl (nbeq_self _)
        ·rw[appL_eq,List.mem_append]at hx;rcases hx with hx|hx
         ·obtain⟨q,hq,rfl⟩:=mem_idxL.1 hx;exact .inr (hpr _ ((sp1 q).1 hq).2)
         ·exact .inr (I.sub x hx)
       ·intro x hx;simp only[Bool.or_eq_true]at hx;rcases hx with hx|hx
        ·left;rw[nbeq_true hx];simp
        ·rcases I.sup x hx with h1|h1
         ·left;exact List.mem_cons_of_mem _ (by rw[appL_eq];exact List.mem_append.2 (.inr h1))
         ·obtain⟨q,hq,rfl⟩:=mem_idxL.1 h1;by_cases hqp:q.i∈predsOf o
          ·left;exact List.mem_cons_of_mem _ (by rw[appL_eq];exact List.mem_append.2 (.inl (mem_idxL.2 ⟨q,(sp1 q).2 ⟨hq,hqp⟩,rfl⟩)))
          ·right;exact mem_idxL.2 ⟨q,(sp2 q).2 ⟨hq,hqp⟩,rfl⟩
       ·refine s'.addL _ fun q hq=>?_;obtain⟨hq1,hq2⟩:=mem_exed.1 hq;obtain⟨hq3,hq4⟩:=(sp2 q).1 hq1;have hLq:Lm q.i=true:=by
         simp only[Bool.or_eq_true]at hq2;rcases hq2 with h1|h1
         ·exact absurd (nbeq_true h1) (hij q hq3)
         ·exact h1
        have hg:=I.good q hq3;refine⟨hg.1,?_⟩;have hold:=I.sim.slot q.d q.a hg.1 (penvE_some (I.apart.exed _) (mem_exed.2 ⟨hq3,hLq⟩)) hg.2.2;have hnd':q.d∉o.dst.toList:=by
         intro hm;have:=(hokr q hq1).2 q.d (by simpa using hm);exact this.1 rfl
        rw[f'.slots q.d hnd',hold];cases hqa:q.a with
        | val v=>rfl
        | bad=>exact absurd hqa hg.2.2
        | pp kk off =>
         have:kk∉o.dst.toList:=by
          intro hm;exact((hokr q hq1).2 kk (by simpa using hm)).2 kk off hqa rfl
         simp only[conc,f'.names kk this]
       ·intro e'' t'' σ'' hp'' h'' s'' dj'' f'' hT'';exact hk e'' t'' σ'' hp'' h'' s'' dj'' (f'.trans f'' hdD (fun _ h=>h)) hT''
      ·exact hT'.elim
theorem mv_draw(hR:LClosed C.P main R){id:Nat}{ops:Array Oper}{tmps:Array Value}{k:List Item}{h:LH}(hm:C.P.follows .mixedOrders=true)(hn:∀ l,Ord ops (fun _=>false) l->R (G (mkF fn ds rd tmps (.inRegion ops l::k)) cs) h) :
  R (G (mkF fn ds rd tmps (.code (.region id ops true)::k)) cs) h:=by
 refine hR.step _ cs h (fun g' h'=>∃ l,Ord ops (fun _=>false) l/\g'=G (mkF fn ds rd tmps (.inRegion ops l::k)) cs/\h'=h) ?_ ?_
 ·intro w hf;refine⟨_,{ w with drawn:=w.drawn+1 },#[],h.get,?_,(let t:=Tr.refl hf;⟨t.fits,t.size,t.other,t.part,t.new,t.keep,rfl,rfl,rfl⟩),by simp,_,schedule_ord ops ((Question.order fn.fn id).cut (w.tape w.drawn (.order fn.fn id))),rfl,rfl⟩;simp[G,mkF,stepG,stepG.exec,choose,Sem.run,Question.forced,hm]
 ·rintro _ _ ⟨l,hl,rfl,rfl⟩;exact hn l hl
end
end
section
section
variable {X:XP} {C:Ctx} {main:Bool} {R:Goroutine->LH->Prop}
variable {cs:List Frame} {fn:FI} {ds:List Deferred} {rd:Option Nat} {Q:Leaf->LH->Prop}
theorem upto_range(n:Nat):upto 0 n=List.range n:=by rw[upto_eq];simp
theorem mem_dsts_go:∀ {l:List Oper} {o:Oper} {d:Nat},o∈l->o.dst=some d->d∈dsts.go l:=by
 intro l
 induction l with
 | nil=>intro o d h;simp at h
 | cons a l ih =>
  intro o d h hd;rw[dsts.go];rcases List.mem_cons.1 h with rfl|h
  ·rw[hd];simp
  ·cases a.dst with
   | none=>exact ih h hd
   | some d'=>exact List.mem_cons_of_mem _ (ih h hd)
def XR(R:Goroutine->LH->Prop)(fn:FI)(ds:List Deferred)(rd:Option Nat)(tmps:Array Value)(cs:List Frame)(h:LH)(k:List Item):LExit->Prop
 | .fall=>R (G (mkF fn ds rd tmps k) cs) h
 | .exit id=>∀ k',exitTo id k'=exitTo id k->R (G (mkF fn ds rd tmps (.code (.exit id)::k')) cs) h
 | .ret=>∀ k',R (G (mkF fn ds rd tmps (.code .ret::k')) cs) h
def BehindX(X:XP)(P:Program)(R:Goroutine->LH->Prop)(fn:FI)(ds:List Deferred)(rd:Option Nat)(cs:List Frame)(k:List Item)(D:List Nat)(ro:List Nat)(PB:Nat->Prop)(σ:Nat->Nat)(tmps:Array Value)(hp:Cells)
 (kT:LExit->Env->T)(Q:Leaf->LH->Prop):Prop :=
 ∀ x e' tmps' σ' hp' h',Sim σ' ro PB e' tmps' hp'->Disj h'.get hp'->Fr D PB σ tmps hp σ' tmps' hp'->(kT x e').wp X P Q h'->XR R fn ds rd tmps' cs (h'.add hp') k x
def LeafIs(id:Option Nat)(x:LExit)(vs:List Value)(Q:Leaf->LH->Prop)(h:LH):Prop :=
 match x with
 | .fall=>Q (.again vs) h
 | .ret=>Q (.retn vs) h
 | .exit j=>if some j=id then Q (.brk vs) h else Q (.out j vs) h
theorem leafT_wp{P:Program}{id:Option Nat}{e:Env}{L:List (Nat×Kind)}{x:LExit}{Q:Leaf->LH->Prop}{h:LH}(hw:(leafT id e L x).wp X P Q h):∃ vs,collect e L=some vs/\LeafIs id x vs Q h:=by
 obtain⟨vs,hc,hw'⟩:=withC_wp hw;refine⟨vs,hc,?_⟩;cases x with
 | fall=>exact hw'
 | ret=>exact hw'
 | exit j =>
  cases id with
  | none=>rw[LeafIs,if_neg (by simp)];exact hw'
  | some i =>
   rw[LeafIs];simp only at hw';cases hb:Nat.beq j i with
   | true=>rw[hb]at hw';rw[if_pos (by rw[nbeq_true hb])];exact hw'
   | false=>rw[hb]at hw';rw[if_neg (by simpa using nbeq_false hb)];exact hw'
theorem ppsOk_spec{e:Env}:∀ {ds:List Nat},ppsOk ds e=true->∀ d∈ds,slotA e d=some (.pp d 0):=by
 intro ds
 induction ds with
 | nil=>intro _ d hd;cases hd
 | cons a ds ih =>
  intro h d hd;rw[ppsOk]at h;simp only[Bool.and_eq_true]at h;rcases List.mem_cons.1 hd with rfl|hd
  ·have h1:=h.1;split at h1
   ·rename_i k o hs;simp only[Bool.and_eq_true]at h1;rw[hs,nbeq_true h1.1,nbeq_true h1.2]
   ·cases h1
  ·exact ih h.2 d hd
theorem Sim.addPP{σ:Nat->Nat}{ro:List Nat}{PB:Nat->Prop}{e e':Env}{tmps:Array Value}{hp:Cells}{ro':List Nat}{PB':Nat->Prop}(s:Sim σ ro PB e tmps hp)(s':Sim σ ro' PB' e' tmps hp):∀ {ds:List Nat},ppsOk ds e'=true->Sim σ ro PB (TM.addPP ds e) tmps hp:=by
 intro ds
 induction ds with
 | nil=>intro _;exact s
 | cons d ds ih =>
  intro h;have h0:=ppsOk_spec h d (by simp);have h1:ppsOk ds e'=true:=by rw[ppsOk]at h;simp only[Bool.and_eq_true]at h;exact h.2
  obtain⟨hlt,hg⟩:=slotA_some h0;exact(ih h1).addSlot hlt fun hb=>s'.slot d _ hlt hg hb
theorem ppsT_wp{P:Program}{ds:List Nat}{e:Env}{x:LExit}{t:T}{Q:Leaf->LH->Prop}{h:LH}(hw:(ppsT ds e x t).wp X P Q h):t.wp X P Q h/\(x=.fall->ppsOk ds e=true):=by
 unfold ppsT at hw;cases x with
 | fall =>
  simp only at hw;cases hb:ppsOk ds e with
  | true=>rw[hb]at hw;exact⟨hw,fun _=>rfl⟩
  | false=>rw[hb]at hw;exact hw.elim
 | ret=>exact⟨hw,fun e=>by cases e⟩
 | exit j=>exact⟨hw,fun e=>by cases e⟩
theorem block_sound(hR:LClosed C.P main R){id:Nat}{c:Code}{ro:List Nat}{PB:Nat->Prop}{e:Env}{kT:LExit->Env->T}{tmps:Array Value}{k:List Item}{σ:Nat->Nat}{hp:Cells}{h:LH}{Q:Leaf->LH->Prop}
 {t:T}(ht:t=tree C false ro c e fun x e'=>match x with
   | .exit j=>match Nat.beq j id with
    | true=>kT .fall e'
    | false=>kT (.exit j) e'
   | x=>kT x e')(hT:t.wp X C.P Q h)(hk:BehindX X C.P R fn ds rd cs k (dsts (.block id c)) ro PB σ tmps hp kT Q)
 (ih:∀ kT':LExit->Env->T,(tree C false ro c e kT').wp X C.P Q h->BehindX X C.P R fn ds rd cs (.inBlock id::k) (dsts c) ro PB σ tmps hp kT' Q->R (G (mkF fn ds rd tmps (.code c::.inBlock id::k)) cs) (h.add hp)) :
  R (G (mkF fn ds rd tmps (.code (.block id c)::k)) cs) (h.add hp):=by
 subst ht;refine mv_block hR (ih _ hT ?_);intro x e' t' σ' hp' h' s' dj' f' hT';have f₁:Fr (dsts (.block id c)) PB σ tmps hp σ' t' hp':=f'.mono (fun _ h=>by simpa[dsts] using h) (fun _ h=>h);cases x with
 | fall=>exact mv_inBlock hR (hk .fall e' t' σ' hp' h' s' dj' f₁ hT')
 | ret=>exact hk .ret e' t' σ' hp' h' s' dj' f₁ hT'
 | exit j =>
  intro k' hk';simp only at hT';cases hb:Nat.beq j id with
  | true =>
   rw[hb]at hT';refine mv_exit hR (k':=k) ?_ (hk .fall e' t' σ' hp' h' s' dj' f₁ hT');rw[hk',nbeq_true hb];simp[exitTo]
  | false =>
   rw[hb]at hT';refine hk (.exit j) e' t' σ' hp' h' s' dj' f₁ hT' k' ?_;rw[hk'];have:(id==j)=false:=by simpa using Ne.symm (nbeq_false hb)
   simp[exitTo,this]
theorem tree_sound(hX:XOK X)(hR:Closed X C.P main R)(hst:X.stk C.P fn.kd cs):(c:Code)->∀ (fin:Bool) (ro:List Nat) (PB:Nat->Prop) (e:Env) (kT:LExit->Env->T) (tmps:Array Value) (k:List Item) (σ:Nat->Nat) (hp:Cells) (h:LH) (Q:Leaf->LH->Prop),
  (fin=true->k=[]/\ds=[]/\rd=none/\fn.kd=.deferred/\∃ fd,C.P.funcs[fn.fn]?=some fd/\fd.results=#[])->Sim σ ro PB e tmps hp->Disj h.get hp->(∀ b,PB b->∃ x,hp b=some x)->(∀ d∈dsts c,d<tmps.size/\d<4096)->(tree C fin ro c e kT).wp X C.P Q h->BehindX X C.P R fn ds rd cs k (dsts c) ro PB σ tmps hp kT Q ->
  R (G (mkF fn ds rd tmps (.code c::k)) cs) (h.add hp)
 | .skip=>by
  intro fin ro PB e kT tmps k σ hp h Q hfin s dj hPB hd hT hk;exact mv_skip hR.1 (hk .fall e tmps σ hp h s dj Fr.refl (by simpa[tree] using hT))
 | .region id ops draw=>by
  intro fin ro PB e kT tmps k σ hp h Q hfin s dj hPB hd hT hk;cases draw with
  | true =>
   simp only[tree]at hT;split at hT
   ·rename_i hm hE;refine mv_draw hR.1 hm fun l hl=>?_;have I:DI X C ro PB ops (fun _=>false) [] e [] σ tmps hp h :=
     ⟨fun i hi=>(by cases hi),fun i hi=>(by cases hi),s,fun p hp=>(by cases hp),fun p hp=>(by cases hp),List.Pairwise.nil,fun p hp=>(by cases hp),fun p hp=>(by cases hp),fun p hp=>(by cases hp)⟩
    refine drawT_sound hX hR hst (D:=dsts (.region id ops true)) (N:=tmps.size) ?_ hE hl _ [] e [] σ tmps hp h I rfl dj hPB hT ?_
    ·intro i o ho d hdd;have hm:d∈dsts (.region id ops true):=mem_dsts_go (Array.mem_toList_iff.2 (Array.mem_of_getElem? ho)) hdd;exact⟨hm,hd d hm⟩
    ·intro e' t' σ' hp' h' s' dj' f' hT';exact hk .fall e' t' σ' hp' h' s' dj' f' hT'
   ·exact hT.elim
  | false =>
   refine mv_region hR.1 ?_;simp only[tree]at hT;rw[upto_range]at hT;refine opsT_sound hX hR hst hfin (D:=dsts (.region id ops false)) _ ?_ s dj hPB hT ?_
   ·intro i hi o ho d hdd;have hm:d∈dsts (.region id ops false):=mem_dsts_go (Array.mem_toList_iff.2 (Array.mem_of_getElem? ho)) hdd;exact⟨hm,hd d hm⟩
   ·intro e' t' σ' hp' h' s' dj' f' hT';exact hk .fall e' t' σ' hp' h' s' dj' f' hT'
 | .seq a b=>by
  intro fin ro PB e kT tmps k σ hp h Q hfin s dj hPB hd hT hk;have hda:∀ d∈dsts a,d<tmps.size/\d<4096:=fun d h=>hd d (by rw[dsts,appL_eq];simp[h]);have hdb:∀ d∈dsts b,d<tmps.size/\d<4096:=fun d h=>hd d (by rw[dsts,appL_eq];simp[h]);have ina:∀ d,d∈dsts a->d∈dsts (.seq a b):=fun d h=>by rw[dsts,appL_eq];simp[h]
  have inb:∀ d,d∈dsts b->d∈dsts (.seq a b):=fun d h=>by rw[dsts,appL_eq];simp[h]
  refine mv_seq hR.1 ?_;rw[tree]at hT;split at hT
  ·rename_i n hn;split at hT
   ·rename_i hfree;simp only[T.wp]at hT;refine tree_sound hX hR hst a _ _ _ _ _ _ _ _ _ _ _ (by simp) (s.guarded n.ro) dj (s.guarded_live n.ro hPB) hda hT ?_;intro x e' t' σ' hp' h' s' dj' f' hT';obtain⟨hT',hpps⟩:=ppsT_wp hT';obtain⟨vs,hc,hl⟩:=leafT_wp hT';obtain⟨s₁,_⟩:=s.rebind s' f' hc hfree;have f₁:Fr (dsts a) PB σ tmps hp σ' t' hp':=f'.mono (fun _ h=>h) (fun _ h=>.inl h);cases x with
    | fall =>
     have:=bindS_wp hl;refine tree_sound hX hR hst b _ _ _ _ _ _ _ _ _ _ _ hfin (s₁.addPP s' (hpps rfl)) dj' (fun b hb=>by rw[f₁.prot b hb];exact hPB b hb) (by rw[f₁.size];exact hdb) this ?_;intro x e'' t'' σ'' hp'' h'' s'' dj'' f'' hT'';exact hk x e'' t'' σ'' hp'' h'' s'' dj'' (f₁.trans f'' ina inb) hT''
    | ret =>
     have:=bindS_wp hl;have:=hk .ret _ t' σ' hp' h' s₁ dj' (f₁.mono ina (fun _ h=>h)) this;exact this
    | exit j =>
     rw[LeafIs,if_neg (by simp)]at hl;have:=bindS_wp (outT_wp hl);exact hk (.exit j) _ t' σ' hp' h' s₁ dj' (f₁.mono ina (fun _ h=>h)) this
   ·exact hT.elim
  ·refine tree_sound hX hR hst a _ _ _ _ _ _ _ _ _ _ _ (by simp) s dj hPB hda hT ?_;intro x e' t' σ' hp' h' s' dj' f' hT';cases x with
   | fall =>
    refine tree_sound hX hR hst b _ _ _ _ _ _ _ _ _ _ _ hfin s' dj' (fun b hb=>by rw[f'.prot b hb];exact hPB b hb) (by rw[f'.size];exact hdb) hT' ?_;intro x e'' t'' σ'' hp'' h'' s'' dj'' f'' hT'';exact hk x e'' t'' σ'' hp'' h'' s'' dj'' (f'.trans f'' ina inb) hT''
   | ret=>exact hk .ret e' t' σ' hp' h' s' dj' (f'.mono ina (fun _ h=>h)) hT'
   | exit j=>exact hk (.exit j) e' t' σ' hp' h' s' dj' (f'.mono ina (fun _ h=>h)) hT'
 | .cond c a b=>by
  intro fin ro PB e kT tmps k σ hp h Q hfin s dj hPB hd hT hk;have hda:∀ d∈dsts a,d<tmps.size/\d<4096:=fun d h=>hd d (by rw[dsts,appL_eq];simp[h]);have hdb:∀ d∈dsts b,d<tmps.size/\d<4096:=fun d h=>hd d (by rw[dsts,appL_eq];simp[h]);have ina:∀ d,d∈dsts a->d∈dsts (.cond c a b):=fun d h=>by rw[dsts,appL_eq];simp[h]
  have inb:∀ d,d∈dsts b->d∈dsts (.cond c a b):=fun d h=>by rw[dsts,appL_eq];simp[h]
  rw[tree]at hT;obtain⟨v,hv,hT⟩:=withV_wp hT;cases v<;>simp only[T.unB]at hT<;>first|exact hT.elim|skip
  rename_i t;refine mv_cond hR.1 (t:=t) (s.eval hv (by simp)) ?_;cases t with
  | true =>
   refine tree_sound hX hR hst a _ _ _ _ _ _ _ _ _ _ _ hfin s dj hPB hda hT ?_;intro x e' t' σ' hp' h' s' dj' f' hT';exact hk x e' t' σ' hp' h' s' dj' (f'.mono ina (fun _ h=>h)) hT'
  | false =>
   refine tree_sound hX hR hst b _ _ _ _ _ _ _ _ _ _ _ hfin s dj hPB hdb hT ?_;intro x e' t' σ' hp' h' s' dj' f' hT';exact hk x e' t' σ' hp' h' s' dj' (f'.mono inb (fun _ h=>h)) hT'
 | .block id (.loop body)=>by
  intro fin ro PB e kT tmps k σ hp h Q hfin s dj hPB hd hT hk;have hdb:∀ d∈dsts body,d<tmps.size/\d<4096:=fun d h=>hd d (by simpa[dsts] using h);rw[tree]at hT;split at hT
  ·rename_i n hn;split at hT
   ·rename_i hfree;obtain⟨vs0,hc0,hT⟩:=withC_wp hT;refine mv_block hR.1 (mv_loop hR.1 ?_);have hY:=hT fun vs h'=>∀ t' σ' hp',Sim σ' (appL n.ro ro) (prot' PB σ n.ro e) (bindEnv n.slots vs (stays (dsts body) (appL n.ro ro) e)) t' hp'->Disj h'.get hp'->Fr (dsts body) (prot' PB σ n.ro e) σ tmps hp σ' t' hp' ->
     R (G (mkF fn ds rd t' (.code body::.inLoop body::.inBlock id::k)) cs) (h'.add hp')
    refine hY ?_ tmps σ hp (s.rebind (s.guarded n.ro) Fr.refl hc0 hfree).2 dj Fr.refl;intro vs h' hw t' σ' hp' s' dj' f';have hw:=bindS_wp hw;refine tree_sound hX hR hst body _ _ _ _ _ _ _ _ _ _ _ (by simp) s' dj' (fun b hb=>by rw[f'.prot b hb];exact s.guarded_live n.ro hPB b hb) (by rw[f'.size];exact hdb) hw ?_;intro x e'' t'' σ'' hp'' h'' s'' dj'' f'' hT'';obtain⟨vs'',hc,hl⟩:=leafT_wp hT'';have f₂:Fr (dsts body) (prot' PB σ n.ro e) σ tmps hp σ'' t'' hp'':=f'.trans f'' (fun _ h=>h) (fun _ h=>h);obtain⟨s₁,s₂⟩:=s.rebind s'' f₂ hc hfree;have f₁:Fr (dsts (.block id (.loop body))) PB σ tmps hp σ'' t'' hp'':=f₂.mono (fun _ h=>by simpa[dsts] using h) (fun _ h=>.inl h);cases x with
    | fall=>exact mv_inLoop hR.1 (hl t'' σ'' hp'' s₂ dj'' f₂)
    | ret=>exact hk .ret _ t'' σ'' hp'' h'' s₁ dj'' f₁ (bindS_wp hl)
    | exit j =>
     intro k' hk';by_cases hj:j=id
     ·subst hj;rw[LeafIs,if_pos rfl]at hl;have:=hk .fall _ t'' σ'' hp'' h'' s₁ dj'' f₁ (bindS_wp hl);refine mv_exit hR.1 (k':=k) ?_ this;rw[hk'];simp[exitTo]
     ·rw[LeafIs,if_neg (by simpa using hj)]at hl;have:=hk (.exit j) _ t'' σ'' hp'' h'' s₁ dj'' f₁ (bindS_wp (outT_wp hl));refine this k' ?_;rw[hk'];have:(id==j)=false:=by simpa using Ne.symm hj
      simp[exitTo,this]
   ·exact hT.elim
  ·exact hT.elim
 | .block id (.skip)=>by
  intro fin ro PB e kT tmps k σ hp h Q hfin s dj hPB hd hT hk;exact block_sound hR.1 rfl hT hk fun k' hT hk'=>tree_sound hX hR hst _ _ _ _ _ _ _ _ _ _ _ _ (by simp) s dj hPB (fun d h=>hd d (by simpa[dsts] using h)) hT hk'
 | .block id (.region _ _ _)=>by
  intro fin ro PB e kT tmps k σ hp h Q hfin s dj hPB hd hT hk;exact block_sound hR.1 rfl hT hk fun k' hT hk'=>tree_sound hX hR hst _ _ _ _ _ _ _ _ _ _ _ _ (by simp) s dj hPB (fun d h=>hd d (by simpa[dsts] using h)) hT hk'
 | .block id (.seq _ _)=>by
  intro fin ro PB e kT tmps k σ hp h Q hfin s dj hPB hd hT hk;exact block_sound hR.1 rfl hT hk fun k' hT hk'=>tree_sound hX hR hst _ _ _ _ _ _ _ _ _ _ _ _ (by simp) s dj hPB (fun d h=>hd d (by simpa[dsts] using h)) hT hk'
 | .block id (.cond _ _ _)=>by
  intro fin ro PB e kT tmps k σ hp h Q hfin s dj hPB hd hT hk;exact block_sound hR.1 rfl hT hk fun k' hT hk'=>tree_sound hX hR hst _ _ _ _ _ _ _ _ _ _ _ _ (by simp) s dj hPB (fun d h=>hd d (by simpa[dsts] using h)) hT hk'
 | .block id (.block _ _)=>by
  intro fin ro PB e kT tmps k σ hp h Q hfin s dj hPB hd hT hk;exact block_sound hR.1 rfl hT hk fun k' hT hk'=>tree_sound hX hR hst _ _ _ _ _ _ _ _ _ _ _ _ (by simp) s dj hPB (fun d h=>hd d (by simpa[dsts] using h)) hT hk'
 | .block id (.exit _)=>by
  intro fin ro PB e kT tmps k σ hp h Q hfin s dj hPB hd hT hk;exact block_sound hR.1 rfl hT hk fun k' hT hk'=>tree_sound hX hR hst _ _ _ _ _ _ _ _ _ _ _ _ (by simp) s dj hPB (fun d h=>hd d (by simpa[dsts] using h)) hT hk'
 | .block id (.ret)=>by
  intro fin ro PB e kT tmps k σ hp h Q hfin s dj hPB hd hT hk;exact block_sound hR.1 rfl hT hk fun k' hT hk'=>tree_sound hX hR hst _ _ _ _ _ _ _ _ _ _ _ _ (by simp) s dj hPB (fun d h=>hd d (by simpa[dsts] using h)) hT hk'
 | .block id (.scope _)=>by
  intro fin ro PB e kT tmps k σ hp h Q hfin s dj hPB hd hT hk;exact block_sound hR.1 rfl hT hk fun k' hT hk'=>tree_sound hX hR hst _ _ _ _ _ _ _ _ _ _ _ _ (by simp) s dj hPB (fun d h=>hd d (by simpa[dsts] using h)) hT hk'
 | .block id (.label _)=>by
  intro fin ro PB e kT tmps k σ hp h Q hfin s dj hPB hd hT hk;exact block_sound hR.1 rfl hT hk fun k' hT hk'=>tree_sound hX hR hst _ _ _ _ _ _ _ _ _ _ _ _ (by simp) s dj hPB (fun d h=>hd d (by simpa[dsts] using h)) hT hk'
 | .block id (.goto _)=>by
  intro fin ro PB e kT tmps k σ hp h Q hfin s dj hPB hd hT hk;exact block_sound hR.1 rfl hT hk fun k' hT hk'=>tree_sound hX hR hst _ _ _ _ _ _ _ _ _ _ _ _ (by simp) s dj hPB (fun d h=>hd d (by simpa[dsts] using h)) hT hk'
 | .block id (.refuse _)=>by
  intro fin ro PB e kT tmps k σ hp h Q hfin s dj hPB hd hT hk;exact block_sound hR.1 rfl hT hk fun k' hT hk'=>tree_sound hX hR hst _ _ _ _ _ _ _ _ _ _ _ _ (by simp) s dj hPB (fun d h=>hd d (by simpa[dsts] using h)) hT hk'
 | .block _ (.rangeFunc _ _ _ _)=>by
  intro fin ro PB e kT tmps k σ hp h Q hfin s dj hPB hd hT hk;simp only[tree]at hT;exact hT.elim
 | .exit id=>by
  intro fin ro PB e kT tmps k σ hp h Q hfin s dj hPB hd hT hk;exact hk (.exit id) e tmps σ hp h s dj Fr.refl (by simpa[tree] using hT) k rfl
 | .ret=>by
  intro fin ro PB e kT tmps k σ hp h Q hfin s dj hPB hd hT hk;exact hk .ret e tmps σ hp h s dj Fr.refl (by simpa[tree] using hT) k
 | .loop _=>by intro fin ro PB e kT tmps k σ hp h Q hfin s dj hPB hd hT hk;exact hT.elim
 | .rangeFunc _ _ _ _=>by intro fin ro PB e kT tmps k σ hp h Q hfin s dj hPB hd hT hk;exact hT.elim
 | .scope c=>by
  intro fin ro PB e kT tmps k σ hp h Q hfin s dj hPB hd hT hk;rw[tree]at hT;refine mv_scope hR.1 (tree_sound hX hR hst c _ _ _ _ _ _ _ _ _ _ _ (by simp) s dj hPB (fun d h=>hd d (by simpa[dsts] using h)) hT ?_);intro x e' t' σ' hp' h' s' dj' f' hT';have f₁:Fr (dsts (.scope c)) PB σ tmps hp σ' t' hp':=f'.mono (fun _ h=>by simpa[dsts] using h) (fun _ h=>h);cases x with
  | fall=>exact mv_inScope hR.1 (hk .fall e' t' σ' hp' h' s' dj' f₁ hT')
  | ret=>exact hk .ret e' t' σ' hp' h' s' dj' f₁ hT'
  | exit j =>
   intro k' hk';exact hk (.exit j) e' t' σ' hp' h' s' dj' f₁ hT' k' (by rw[hk'];simp[exitTo])
 | .label _=>by
  intro fin ro PB e kT tmps k σ hp h Q hfin s dj hPB hd hT hk;exact mv_label hR.1 (hk .fall e tmps σ hp h s dj Fr.refl (by simpa[tree] using hT))
 | .goto _=>by intro fin ro PB e kT tmps k σ hp h Q hfin s dj hPB hd hT hk;exact hT.elim
 | .refuse _=>by intro fin ro PB e kT tmps k σ hp h Q hfin s dj hPB hd hT hk;exact hT.elim
end
end
section
section
variable {P:Program} {main:Bool} {R:Goroutine->LH->Prop} {cs:List Frame}
def markOf(r:Nat):Deferred:={ target:=.collected r,args:=#[] }
def loopObj(st:LoopState)(pd:Option Code)(fn:FuncId)(tmps:Array Value)(ps:Array Tmp)(asq bd:Code)(r:Nat):Obj:=.loop { state:=st,pending:=pd,fn,tmps,params:=ps,assign:=asq,body:=bd,defers:=r }
theorem mv_enterLoop(hR:LClosed P main R){fn:FI}{ds:List Deferred}{tmps:Array Value}{k:List Item}{h:LH}{f:Operand}{ps:Array Tmp}{asq bd:Code}{fv:Value}
 (hf:∀ (fr:Frame),fr.tmps=tmps->fr.eval f=fv)
 (hn:∀ r l,h.get r=none->h.get l=none->r≠l ->
      Sem.lwp P (do let d <- Deferred.ofValue fv #[.func (.yield l) #[] #[]];invoke d.target d.args)
        (fun nx h'=>Nx P R (mkF fn (markOf r::ds) none tmps (.inRangeFunc l::k)) cs { h with get:=h' } nx) (fun _ _=>False) ((h.get.upd r (true,.deferred (some []))).upd l (true,loopObj .ready none fn.fn tmps ps asq bd r))) :
    R (G (mkF fn ds none tmps (.code (.rangeFunc f ps asq bd)::k)) cs) h:=by
  refine hR.step _ cs h R ?_ (fun _ _ h=>h);intro w hw;let r:=w.heap.size;let l:=w.heap.size+1;let w1:World:={ w with heap:=(w.heap.push (.deferred (some []))).push (loopObj .ready none fn.fn tmps ps asq bd r) }
  have t1:=tr_new hw (o:=.deferred (some [])) rfl;have hl1:({ w with heap:=w.heap.push (.deferred (some [])) }:World).heap.size=l:=by simp[l]
  have t2:=tr_new t1.fits (o:=loopObj .ready none fn.fn tmps ps asq bd r) rfl;rw[hl1]at t2;have hrn:h.get r=none:=hw.fresh (Nat.le_refl _);have hln:h.get l=none:=hw.fresh (Nat.le_succ _);have tt:=t1.trans t2;have hrun:(Instr.enterLoop fn.fn tmps ps asq bd none).runT P w #[]=(.ok (l,[markOf r]) w1,#[]):=by
    show Sem.runT P (.new (.deferred (some [])) fun r=>.new (loopObj .ready none fn.fn tmps ps asq bd r) fun l=>.pure (l,[markOf r])) w #[]=_;simp only[Sem.runT,Array.size_push];rfl
  have hS:=hn r l hrn hln (Nat.ne_of_lt (Nat.lt_succ_self _));obtain⟨w',h',es',tr,hes,hq⟩:=lwp_sound P _ _ _ _ w1 #[] t2.fits hS;rcases hq with⟨nx,hrun',hN⟩|⟨e,_,hE⟩
  · rw[Array.empty_append]at hrun'
    have hres:resolve (mkF fn (markOf r::ds) none tmps (.inRangeFunc l::k)).eval { callee:=.value f,args:=#[.const (.func (.yield l) #[] #[])],argTypes:=#[] } 0=Deferred.ofValue fv #[.func (.yield l) #[] #[]]:=by
      unfold resolve;simp only[hf (mkF fn (markOf r::ds) none tmps (.inRangeFunc l::k)) rfl,List.map_toArray,List.map_cons,List.map_nil];rfl
    have hk':(fn.kd==CallKind.early)=false:=by simpa using fn.ok
    have hrun1:((do let d <- Deferred.ofValue fv #[.func (.yield l) #[] #[]];invoke d.target d.args:Sem Next)).run P w1=.ok nx w':=by rw[<- Sem.runT_fst _ _ _ #[],hrun']
    have hrun2:((do let d <- Deferred.ofValue fv #[.func (.yield l) #[] #[]];invoke d.target d.args:Sem Next)).events P w1 #[]=es':=by show (Sem.runT P _ w1 #[]).2=es';rw[hrun']
    have hev:∀ e∈seen P fn.fn es',EvOk h.get w.heap.size w'.heap.size e:=fun e he=>EvOk.back tt tr.size (hes e (mem_seen he));have hstep:stepG P main (G (mkF fn ds none tmps (.code (.rangeFunc f ps asq bd)::k)) cs) w=GStep.after (seen P fn.fn #[]) (stepG.apply P true (mkF fn (markOf r::ds) none tmps (.inRangeFunc l::k)) cs none (do let d <- Deferred.ofValue fv #[.func (.yield l) #[] #[]];invoke d.target d.args) w1):=by
      rw[<- hres];simp only[G,mkF,stepG,stepG.exec,hrun];rfl
    have e0:seen P fn.fn #[]=#[]:=rfl;cases nx<;>simp only[Nx]at hN<;>first
      | exact hN.elim
      | (refine⟨_,w',seen P fn.fn es',h',?_,tt.trans tr,hev,hN⟩
         rw[hstep,e0];simp[stepG.apply,hrun1,hrun2,mkF,hk',GStep.after,G])
  · exact hE.elim
theorem lwp_getLoop{α:Type}{l:Nat}{h:Cells}{m:Bool}{r:Loop}{kk:Loop->Sem α}{Q:α->Cells->Prop}{E:Halt->Cells->Prop}(hl:h l=some (m,.loop r))(hq:Sem.lwp P (kk r) Q E h):Sem.lwp P (Instr.getLoop l >>= kk) Q E h:=by
 show Sem.lwp P ((Instr.getLoop l).bind kk) Q E h;refine Sem.lwp_bind _ _ ?_;exact⟨m,_,hl,trivial,hq⟩
theorem mv_beginRound(hR:LClosed P main R){fn:FI}{ds:List Deferred}{tmps:Array Value}{k:List Item}{h:LH}{l r:Nat}{pd:Option Code}{f:FuncId}{T0:Array Value}{ps:Array Tmp}{asq bd:Code}
 (hl:h.get l=some (true,loopObj .ready pd f T0 ps asq bd r))(hn:R (G (mkF fn ds (some l) tmps k) cs) { h with get:=h.get.upd l (true,loopObj .busy pd f T0 ps asq bd r) }) :
  R (G (mkF fn ds (some l) tmps (.beginRound::k)) cs) h:=by
 refine hR.step _ cs h R ?_ (fun _ _ h=>h);intro w hw;have hS:Sem.lwp P (do Instr.beginRound l;pure .skip:Sem Next) (fun nx h'=>nx=.skip/\h'=h.get.upd l (true,loopObj .busy pd f T0 ps asq bd r)) (fun _ _=>False) h.get:=by
  show Sem.lwp P ((Instr.beginRound l).bind fun _=>(pure Next.skip:Sem Next)) _ _ _;refine Sem.lwp_bind _ _ ?_;unfold Instr.beginRound;refine lwp_getLoop hl ?_;exact⟨⟨_,hl,trivial⟩,rfl,rfl⟩
 obtain⟨w',h',es',tr,hes,hq⟩:=lwp_sound P _ _ _ _ w #[] hw hS;rcases hq with⟨nx,hrun',rfl,rfl⟩|⟨e,_,hE⟩
 ·rw[Array.empty_append]at hrun';have hrun1:(do Instr.beginRound l;pure .skip:Sem Next).run P w=.ok .skip w':=by rw[<- Sem.runT_fst _ _ _ #[],hrun']
  have hrun2:(do Instr.beginRound l;pure .skip:Sem Next).events P w #[]=es':=by show (Sem.runT P _ w #[]).2=es';rw[hrun']
  have hk':(fn.kd==CallKind.early)=false:=by simpa using fn.ok
  refine⟨_,w',seen P fn.fn es',_,?_,tr,fun e he=>hes e (mem_seen he),hn⟩;show stepG.apply P true (mkF fn ds (some l) tmps (.beginRound::k)) cs none (do Instr.beginRound l;pure .skip) w=_;simp only[stepG.apply,Sem.runT_eq,hrun1,hrun2,mkF,hk',GStep.after,Frame.finish];rfl
 ·exact hE.elim
inductive RoundEnd:List Item->Option Code->Prop
 | fall:RoundEnd [] none
 | ret (k:List Item):RoundEnd (.code .ret::k) (some .ret)
 | exit (id:Nat) (k:List Item):exitTo id k=none->RoundEnd (.code (.exit id)::k) (some (.exit id))
theorem mv_endRound(hR:LClosed P main R){fn:FI}(hkd:fn.kd=.normal){ds:List Deferred}{tmps:Array Value}{todo:List Item}{jump:Option Code}(ht:RoundEnd todo jump){c:Frame}{h:LH}{l r:Nat}{st:LoopState}{pd:Option Code}{f:FuncId}{T0:Array Value}{ps:Array Tmp}{asq bd:Code}
 (hl:h.get l=some (true,loopObj st pd f T0 ps asq bd r))(hn:R (G (c.finish (.bool jump.isNone)) cs) { h with get:=h.get.upd l (true,loopObj (if jump.isNone then .ready else .done) jump f T0 ps asq bd r) }) :
  R (G (mkF fn ds (some l) tmps todo) (c::cs)) h:=by
 refine hR.step _ (c::cs) h R ?_ (fun _ _ h=>h);intro w hw;have hS:Sem.lwp P (Instr.endRound l jump) (fun v h'=>v=.bool jump.isNone/\h'=h.get.upd l (true,loopObj (if jump.isNone then .ready else .done) jump f T0 ps asq bd r)) (fun _ _=>False) h.get:=by
  unfold Instr.endRound;refine lwp_getLoop hl ?_;exact⟨⟨_,hl,trivial⟩,rfl,rfl⟩
 obtain⟨w',h',es',tr,hes,hq⟩:=lwp_sound P _ _ _ _ w #[] hw hS;rcases hq with⟨v,hrun',rfl,rfl⟩|⟨e,_,hE⟩
 ·rw[Array.empty_append]at hrun';refine⟨_,w',seen P fn.fn es',_,?_,tr,fun e he=>hes e (mem_seen he),hn⟩;cases ht with
  | fall=>simp only[G,mkF,stepG,stepG.exec,hrun',GStep.after,doReturn,hkd,Array.append_empty]
  | ret k=>simp only[G,mkF,stepG,stepG.exec,hrun',GStep.after,doReturn,hkd,Array.append_empty]
  | exit id k he=>simp only[G,mkF,stepG,stepG.exec,he,Option.elim_none,hrun',GStep.after,doReturn,hkd,Array.append_empty]
 ·exact hE.elim
theorem mv_endLoop(hR:LClosed P main R){fn:FI}{ds:List Deferred}{tmps:Array Value}{k:List Item}{h:LH}{l r:Nat}{st:LoopState}{pd:Option Code}{f:FuncId}{T0:Array Value}{ps:Array Tmp}{asq bd:Code}
 (hst:(st==.busy)=false)(hl:h.get l=some (true,loopObj st pd f T0 ps asq bd r))(hn:R (G (mkF fn ds none tmps ((pd.map Item.code).toList++k)) cs) { h with get:=h.get.upd l (true,loopObj .exhausted pd f T0 ps asq bd r) }) :
  R (G (mkF fn ds none tmps (.endRangeFunc l::k)) cs) h:=by
 refine hR.step _ cs h R ?_ (fun _ _ h=>h);intro w hw;have hS:Sem.lwp P (Instr.endLoop l) (fun v h'=>v=pd/\h'=h.get.upd l (true,loopObj .exhausted pd f T0 ps asq bd r)) (fun _ _=>False) h.get:=by
  unfold Instr.endLoop;refine lwp_getLoop hl ?_;simp only[loopObj,hst,Bool.false_eq_true,if_false];exact⟨⟨_,hl,trivial⟩,rfl,rfl⟩
 obtain⟨w',h',es',tr,hes,hq⟩:=lwp_sound P _ _ _ _ w #[] hw hS;rcases hq with⟨v,hrun',rfl,rfl⟩|⟨e,_,hE⟩
 ·rw[Array.empty_append]at hrun';refine⟨_,w',seen P fn.fn es',_,?_,tr,fun e he=>hes e (mem_seen he),hn⟩;simp only[G,mkF,stepG,stepG.exec,hrun',GStep.after,Array.append_empty]
 ·exact hE.elim
theorem mv_takeDeferred(hR:LClosed P main R){fn:FI}{ds:List Deferred}{rd:Option Nat}{tmps:Array Value}{todo:List Item}{h:LH}{r:Nat}(hl:h.get r=some (true,.deferred (some [])))
 (hn:R (G { mkF fn ds rd tmps todo with mode:=.returning } cs) { h with get:=h.get.upd r (true,.deferred none) }):R (G { mkF fn (markOf r::ds) rd tmps todo with mode:=.returning } cs) h:=by
 refine hR.step _ cs h R ?_ (fun _ _ h=>h);intro w hw;have hS:Sem.lwp P (Instr.takeDeferred r) (fun v h'=>v=[]/\h'=h.get.upd r (true,.deferred none)) (fun _ _=>False) h.get:=by
  unfold Instr.takeDeferred;show Sem.lwp P ((getObj r).bind _) _ _ _;refine Sem.lwp_bind _ _ ?_;exact⟨true,_,hl,trivial,⟨_,hl,trivial⟩,rfl,rfl⟩
 obtain⟨w',h',es',tr,hes,hq⟩:=lwp_sound P _ _ _ _ w #[] hw hS;rcases hq with⟨v,hrun',rfl,rfl⟩|⟨e,_,hE⟩
 ·rw[Array.empty_append]at hrun';refine⟨_,w',seen P fn.fn es',_,?_,tr,fun e he=>hes e (mem_seen he),hn⟩;simp only[G,mkF,stepG,unwind,markOf,hrun',GStep.after,List.nil_append,Array.append_empty]
 ·exact hE.elim
end
end
section
section
variable {X:XP} {P:Program} {h:LH}
theorem CV.mono{v:Value}{args:Array Value}{A B:Value->LH->Prop}(c:CV X P v args h A)(hab:∀ v h,A v h->B v h):CV X P v args h B :=
 fun main R hR fr cs hk=>c main R hR fr cs fun v h' k d hq=>hk v h' k d (hab v h' hq)
theorem T.wp_mono(t:T):∀ {Q Q':Leaf->LH->Prop} {h:LH},t.wp X P Q h->(∀ l h,Q l h->Q' l h)->t.wp X P Q' h:=by
 have gom:∀ {l:Leaf} {h:LH} {ka kb kr ka' kb' kr':List Value->LH->Prop} {ko ko':Nat->List Value->LH->Prop},l.go h ka kb kr ko->(∀ v h,ka v h->ka' v h)->(∀ v h,kb v h->kb' v h)->(∀ v h,kr v h->kr' v h)->(∀ j v h,ko j v h->ko' j v h)->l.go h ka' kb' kr' ko':=by
  intro l h ka kb kr ka' kb' kr' ko ko' hg h1 h2 h3 h4;cases l with
  | ret v=>exact hg
  | again vs=>exact h1 _ _ hg
  | brk vs=>exact h2 _ _ hg
  | retn vs=>exact h3 _ _ hg
  | out j vs=>exact h4 _ _ _ hg
 induction t with
 | fail=>intro Q Q' h hw;exact hw.elim
 | leaf l=>intro Q Q' h hw hq;exact hq _ _ hw
 | need p k ih=>intro Q Q' h hw hq;exact⟨hw.1,ih hw.2 hq⟩
 | someA p k ih=>intro Q Q' h hw hq;obtain⟨a,e,hw⟩:=hw;exact⟨a,e,ih a hw hq⟩
 | loadI ik a k ih=>intro Q Q' h hw hq;obtain⟨n,e,hw⟩:=hw;exact⟨n,e,ih n hw hq⟩
 | loadB a k ih=>intro Q Q' h hw hq;obtain⟨n,e,hw⟩:=hw;exact⟨n,e,ih n hw hq⟩
 | loadS a k ih=>intro Q Q' h hw hq;obtain⟨p,n,c,e,hw⟩:=hw;exact⟨p,n,c,e,ih p n c hw hq⟩
 | loadP a k ih=>intro Q Q' h hw hq;obtain⟨n,e,hw⟩:=hw;exact⟨n,e,ih n hw hq⟩
 | loadM a k ih=>intro Q Q' h hw hq;obtain⟨n,e,hw⟩:=hw;exact⟨n,e,ih n hw hq⟩
 | loadC a k ih=>intro Q Q' h hw hq;obtain⟨n,e,hw⟩:=hw;exact⟨n,e,ih n hw hq⟩
 | loadStr a k ih=>intro Q Q' h hw hq;obtain⟨n,e,hw⟩:=hw;exact⟨n,e,ih n hw hq⟩
 | loadV a k ih=>intro Q Q' h hw hq;obtain⟨n,e,hw⟩:=hw;exact⟨n,e,ih n hw hq⟩
 | store a v k ih=>intro Q Q' h hw hq;obtain⟨h1,h2,h3,h4,hw⟩:=hw;exact⟨h1,h2,h3,h4,ih hw hq⟩
 | new e cs k ih=>intro Q Q' h hw hq r hr;exact ih r (hw r hr) hq
 | call q f args k ih=>intro Q Q' h hw hq;exact FW.mono hw fun v h' hh=>⟨hh.1,ih v hh.2 hq⟩
 | callv q f args k ih=>intro Q Q' h hw hq;exact CV.mono hw fun v h' hh=>⟨hh.1,ih v hh.2 hq⟩
 | sem q s k ih=>intro Q Q' h hw hq;exact Sem.lwp_mono _ hw (fun v h' hh=>⟨hh.1,ih v hh.2 hq⟩) fun _ _ h=>h
 | loop init body kb kr ko ihb ihkb ihkr ihko =>
  intro Q Q' h hw hq Y hY;refine hw Y fun vs h' hb=>hY vs h' ?_;exact ihb vs hb fun l h'' hg=>gom hg (fun _ _ h=>h) (fun v h hh=>ihkb v hh hq) (fun v h hh=>ihkr v hh hq) (fun j v h hh=>ihko j v hh hq)
 | blk body kf kr ko ihb ihkf ihkr ihko =>
  intro Q Q' h hw hq;exact ihb hw fun l h'' hg=>gom hg (fun v h hh=>ihkf v hh hq) (fun _ _ h=>h) (fun v h hh=>ihkr v hh hq) (fun j v h hh=>ihko j v hh hq)
 | spawn v args k ih =>
  intro Q Q' h hw hq main R hR fr cs hat hst hstep kk d hk;exact hw main R hR fr cs hat hst hstep kk d fun h' d' hh=>hk h' d' (ih hh hq)
 | comm last cases shape k ih =>
  intro Q Q' h hw hq main R hR fr cs hat hst hl hstep kk d hk;exact hw main R hR fr cs hat hst hl hstep kk d fun v h' d' hh=>hk v h' d' (ih v hh hq)
 | both a b iha ihb=>intro Q Q' h hw hq;exact⟨iha hw.1 hq,ihb hw.2 hq⟩
 | mem p k ih=>intro Q Q' h hw hq;exact⟨hw.1,ih hw.2 hq⟩
 | each f init body kf kb kr ko ihb ihkf ihkb ihkr ihko =>
  intro Q Q' h hw hq;obtain⟨S,nx,fin,s₀,h₀,hm,k₀,heq,hdk,hle,hH,hY⟩:=hw;refine⟨S,nx,fin,s₀,h₀,hm,k₀,heq,hdk,hle,hH,fun Y h1=>hY Y fun s vs h' hl hf hb=>h1 s vs h' hl (fun e=>ihkf vs (hf e) hq) fun xs s' hn=>?_⟩;exact ihb xs vs (hb xs s' hn) fun l h'' hg=>⟨hg.1,gom hg.2 (fun _ _ h=>h) (fun v h hh=>ihkb v hh hq) (fun v h hh=>ihkr v hh hq) (fun j v h hh=>ihko j v hh hq)⟩
end
section
variable {X:XP} {C:Ctx} {main:Bool} {R:Goroutine->LH->Prop} {cs:List Frame} {fn:FI} {Q:Leaf->LH->Prop}
def oneC(l:Nat)(o:Obj):Cells:=fun x=>if x=l then some (true,o) else none
theorem Sim.tmps{σ:Nat->Nat}{ro:List Nat}{PB:Nat->Prop}{e:Env}{t t':Array Value}{hp:Cells}(s:Sim σ ro PB e t hp)(h:∀ i a,i<4096->e.get i=some a->t'[i]?=t[i]?):Sim σ ro PB e t' hp where
 slot i a hi hg hb:=by rw[h i a hi hg];exact s.slot i a hi hg hb
 cell:=s.cell
 only:=s.only
 inj:=s.inj
 prot:=s.prot
 cover:=s.cover
theorem Sim.le{σ:Nat->Nat}{ro:List Nat}{PB:Nat->Prop}{e:Env}{t:Array Value}{hp hp':Cells}(s:Sim σ ro PB e t hp)(h:∀ r x,hp r=some x->hp' r=some x):Sim σ ro PB e t hp' where
 slot:=s.slot
 cell i v hi hg:=by obtain⟨c,el,h1,h2⟩:=s.cell i v hi hg;exact⟨c,el,h _ _ h1,h2⟩
 only:=s.only
 inj:=s.inj
 prot:=s.prot
 cover:=s.cover
theorem bindPs_wp{P:Program}{h:LH}:∀ {ps:List Nat} {vs:List Value} {e:Env} {kE:Env->T},(bindPs ps vs e kE).wp X P Q h->vs.length=ps.length/\(kE (bindEnv (ps.map fun p=>(p,Kind.any)) vs e)).wp X P Q h:=by
 intro ps
 induction ps with
 | nil=>intro vs e kE hw;obtain⟨rfl,hw⟩:=unNil_wp hw;exact⟨rfl,hw⟩
 | cons p ps ih =>
  intro vs e kE hw;cases vs with
  | nil=>exact hw.elim
  | cons v vs =>
   obtain⟨h1,h2⟩:=ih (e:=(p,.val v)::e) hw;exact⟨by simp[h1],h2⟩
theorem Sim.params{σ:Nat->Nat}{ro:List Nat}{PB:Nat->Prop}{hp:Cells}:∀ (ps:List Nat) (vs:List Value) (e:Env) (t:Array Value),Sim σ ro PB e t hp->(∀ p∈ps,p<t.size/\p<4096) ->
  Sim σ ro PB (bindEnv (ps.map fun p=>(p,Kind.any)) vs e) ((ps.zip vs).foldl (fun t (x:Nat×Value)=>t.setIfInBounds x.1 x.2) t) hp:=by
 intro ps
 induction ps with
 | nil=>intro vs e t s _;cases vs<;>exact s
 | cons p ps ih =>
  intro vs e t s hp';cases vs with
  | nil=>exact s
  | cons v vs =>
   have:=s.put (some p) (fun d hd=>by cases hd;exact hp' p (by simp)) (.val v) v (fun _=>rfl);refine ih vs _ _ this fun q hq=>?_;have:=hp' q (by simp[hq]);simpa[putD] using this
theorem foldl_size(ps:List (Nat×Value))(t:Array Value):(ps.foldl (fun t (x:Nat×Value)=>t.setIfInBounds x.1 x.2) t).size=t.size:=by
 induction ps generalizing t with
 | nil=>rfl
 | cons p ps ih=>rw[List.foldl_cons,ih];simp
theorem foldl_other{i:Nat}(ps:List (Nat×Value))(t:Array Value)(h:∀ p∈ps,p.1≠i):(ps.foldl (fun t (x:Nat×Value)=>t.setIfInBounds x.1 x.2) t)[i]?=t[i]?:=by
 induction ps generalizing t with
 | nil=>rfl
 | cons p ps ih =>
  rw[List.foldl_cons,ih _ fun q hq=>h q (by simp[hq])];rw[Array.getElem?_setIfInBounds_ne (h p (by simp))]
def ZG(X:XP)(P:Program)(Q:Leaf->LH->Prop){S:Type}(nx:S->List Value->S->Prop)(fin:S->Prop)(h₀:LH)(body:List Value->List Value->T)(kf kb kr:List Value->T)(ko:Nat->List Value->T)(s:S)(vs:List Value)(h:LH):Prop :=
 ∀ Y:S->List Value->LH->Prop,(∀ s vs h',LH.le h₀ h'->(fin s->(kf vs).wp X P Q h') ->
  (∀ xs s',nx s xs s'->(body xs vs).wp X P (fun l h''=>LH.le h₀ h''/\l.go h'' (fun vs' h''=>Y s' vs' h'') (fun vs h'=>(kb vs).wp X P Q h') (fun vs h'=>(kr vs).wp X P Q h') (fun j vs h'=>(ko j vs).wp X P Q h')) h')->Y s vs h')->Y s vs h
theorem ZG.out{P:Program}{S:Type}{nx:S->List Value->S->Prop}{fin:S->Prop}{h₀:LH}{body:List Value->List Value->T}{kf kb kr:List Value->T}{ko:Nat->List Value->T}{s:S}{vs:List Value}{h:LH}(z:ZG X P Q nx fin h₀ body kf kb kr ko s vs h) :
  LH.le h₀ h/\(fin s->(kf vs).wp X P Q h)/\∀ xs s',nx s xs s'->(body xs vs).wp X P (fun l h''=>LH.le h₀ h''/\l.go h'' (ZG X P Q nx fin h₀ body kf kb kr ko s') (fun vs h'=>(kb vs).wp X P Q h') (fun vs h'=>(kr vs).wp X P Q h') (fun j vs h'=>(ko j vs).wp X P Q h')) h:=by
 have gom:∀ {A B:List Value->LH->Prop} {l:Leaf} {h:LH} {kb kr:List Value->LH->Prop} {ko:Nat->List Value->LH->Prop},(∀ v h,A v h->B v h)->l.go h A kb kr ko->l.go h B kb kr ko:=by
  intro A B l h kb kr ko hab hg;cases l with
  | again vs=>exact hab _ _ hg
  | ret v=>exact hg
  | brk vs=>exact hg
  | retn vs=>exact hg
  | out j vs=>exact hg
 refine z (fun s vs h=>LH.le h₀ h/\(fin s->(kf vs).wp X P Q h)/\∀ xs s',nx s xs s'->(body xs vs).wp X P (fun l h''=>LH.le h₀ h''/\l.go h'' (ZG X P Q nx fin h₀ body kf kb kr ko s') (fun vs h'=>(kb vs).wp X P Q h') (fun vs h'=>(kr vs).wp X P Q h') (fun j vs h'=>(ko j vs).wp X P Q h')) h) ?_;intro s vs h' hl hf hb;refine⟨hl,hf,fun xs s' hn=>?_⟩;refine T.wp_mono _ (hb xs s' hn) fun l h'' hg=>⟨hg.1,gom ?_ hg.2⟩;rintro vs' h3 ⟨a1,a2,a3⟩ Y hY;refine hY s' vs' h3 a1 a2 fun xs' s'' hn'=>T.wp_mono _ (a3 xs' s'' hn') fun l h4 hg=>⟨hg.1,gom (fun v h5 hz=>hz Y hY) hg.2⟩
theorem oneC_self(l:Nat)(o:Obj):oneC l o l=some (true,o):=by simp[oneC]
theorem oneC_disj{h:Cells}{l:Nat}{o o':Obj}(d:Disj h (oneC l o)):Disj h (oneC l o'):=by
 intro r;rcases d r with h'|h'
 ·exact .inl h'
 ·right;unfold oneC at h' ⊢;split at h'
  ·cases h'
  ·rename_i e;rw[if_neg e]
theorem oneC_none{h:Cells}{l:Nat}{o:Obj}(d:Disj h (oneC l o)):h l=none:=by
 rcases d l with h'|h'
 ·exact h'
 ·rw[oneC_self]at h';cases h'
theorem disj_oneC{h:Cells}{l:Nat}{o:Obj}(hl:h l=none):Disj h (oneC l o):=by
 intro r;by_cases e:r=l
 ·subst e;exact .inl hl
 ·right;simp[oneC,e]
theorem add_oneC_get{h:Cells}{l:Nat}{o:Obj}(hl:h l=none):(h.add (oneC l o)) l=some (true,o):=by rw[Cells.add_right hl,oneC_self]
theorem add_oneC_upd{h:Cells}{l:Nat}{o o':Obj}(hl:h l=none):(h.add (oneC l o)).upd l (true,o')=h.add (oneC l o'):=by
 funext r;unfold Cells.upd Cells.add oneC;by_cases e:r=l
 ·subst e;simp[hl]
 ·simp[e]
def BehindS(X:XP)(P:Program)(R:Goroutine->LH->Prop)(fn:FI)(cs:List Frame)(k:List Item)(D:List Nat)(PB:Nat->Prop)(ds:List Deferred)(σ:Nat->Nat)(tmps:Array Value)(hp:Cells)(kT:LExit->Env->T)(Q:Leaf->LH->Prop):Prop :=
 ∀ x e' tmps' σ' hp' h' (PB':Nat->Prop) (mk:List Nat),Sim σ' [] PB' e' tmps' hp'->Disj h'.get hp'->Fr D PB σ tmps hp σ' tmps' hp'->(∀ b,PB b->PB' b)->(∀ b,PB' b->∃ x,hp' b=some x)->(∀ r∈mk,PB' r/\hp' r=some (true,.deferred (some [])))->mk.Nodup->(∀ r∈mk,¬ PB r) ->
  (kT x e').wp X P Q h'->XR R fn (mk.map markOf++ds) none tmps' cs (h'.add hp') k x
theorem bindEnv_slots_priv{L:List (Nat×Kind)}(hp:allPriv L=true){vs:List Value}{e:Env}{i:Nat}(hi:i<4096):(bindEnv L vs e).get i=e.get i:=by
 induction L generalizing vs e with
 | nil=>cases vs<;>rfl
 | cons x L ih =>
  obtain⟨s,kd⟩:=x;rw[allPriv]at hp;simp only[Bool.and_eq_true]at hp;cases vs with
  | nil=>rfl
  | cons v vs =>
   rw[bindEnv,ih hp.2,Env.get_cons,if_neg];intro e';have:=isPriv_iff.1 hp.1;rw[e']at this;exact absurd hi (Nat.not_lt.2 this)
structure Inn(σ₀:Nat->Nat)(ro:List Nat)(PB1 PBb:Nat->Prop)(L:List (Nat×Kind))(e₁:Env)(W:List Nat)(T0:Array Value)(hp1:Cells)(vs:List Value)(hq:Cells)(σ':Nat->Nat):Prop where
 simA:Sim σ' [] PB1 (bindEnv L vs e₁) T0 hq
 simB:Sim σ' ro PBb (bindEnv L vs e₁) T0 hq
 fr:Fr W PBb σ₀ T0 hp1 σ' T0 hq
theorem Inn.le{σ₀:Nat->Nat}{ro:List Nat}{PB1 PBb:Nat->Prop}{L:List (Nat×Kind)}{e₁:Env}{W:List Nat}{T0:Array Value}{hp1:Cells}{vs:List Value}{hq:Cells}{σ':Nat->Nat}(i:Inn σ₀ ro PB1 PBb L e₁ W T0 hp1 vs hq σ')(hlive:∀ b,PBb b->∃ x,hp1 b=some x)(k:Cells) :
  Inn σ₀ ro PB1 PBb L e₁ W T0 hp1 vs (hq.add k) σ' where
 simA:=i.simA.le fun _ _ h=>Cells.add_left h
 simB:=i.simB.le fun _ _ h=>Cells.add_left h
 fr:=⟨i.fr.size,i.fr.slots,i.fr.names,fun b hb=>by
  obtain⟨x,hx⟩:=hlive b hb;rw[Cells.add_left (by rw[i.fr.prot b hb];exact hx),hx]⟩
end
end
section
section
variable {X:XP} {C:Ctx} {main:Bool} {R:Goroutine->LH->Prop} {cs:List Frame} {fn:FI} {Q:Leaf->LH->Prop}
def endSt:LExit->LoopState | .fall=>.ready|_=>.done
def endJump:LExit->Option Code | .fall=>none | .ret=>some .ret | .exit j=>some (.exit j)
def endGo:LExit->Bool | .fall=>true|_=>false
theorem add_assoc'(a b c:Cells):(a.add b).add c=a.add (b.add c):=by
 funext r;unfold Cells.add;cases a r<;>rfl
def Core(hb:LH)(hq:Cells)(l:Nat)(o:Obj)(h':LH):Prop:=h'={ hb with get:=(hb.get.add hq).add (oneC l o) }/\Disj hb.get hq/\Disj (hb.get.add hq) (oneC l o)
theorem Core.up{hb:LH}{hq:Cells}{l:Nat}{o:Obj}{h':LH}(c:Core hb hq l o h'){k:Cells}(d:Disj h'.get k):Core hb (hq.add k) l o (h'.add k):=by
 obtain⟨rfl,d1,d2⟩:=c;have dk:Disj (hb.get.add hq) k:=d.of_add_left;have d1k:Disj (oneC l o) k:=Disj.of_add_right d2 d;have dbk:Disj hb.get k:=dk.of_add_left;refine⟨?_,?_,?_⟩
 ·unfold LH.add;simp only;rw[Cells.add_swap d1k,add_assoc' hb.get hq k]
 ·exact(Disj.add d1.symm dbk.symm).symm
 ·rw[<- add_assoc'];exact Disj.add d2 d1k.symm
theorem round_sound(hX:XOK X){main₂:Bool}{R₂:Goroutine->LH->Prop}(hR₂:Closed X C.P main₂ R₂){fr₂:Frame}{cs₂:List Frame}{n:LoopNote}{id:Nat}{ps:Array Tmp}{asq bd:Code}{e₁:Env}{T0:Array Value}
 {σ σ':Nat->Nat}{PB1 PBb:Nat->Prop}{hp1 hq:Cells}{hb:LH}{vs xs:List Value}{l r:Nat}{pd:Option Code}{h₀:LH}{Qb:Leaf->LH->Prop}{A:Value->LH->Prop}
 (hlive:∀ b,PBb b->∃ x,hp1 b=some x)(hd:∀ d∈wrOf ps asq bd,d<T0.size/\d<4096)
 (i0:Inn σ (appL n.ro []) PB1 PBb n.slots e₁ (wrOf ps asq bd) T0 hp1 vs hq σ')(dj:Disj hb.get hq)(dl:Disj (hb.get.add hq) (oneC l (loopObj .ready pd fn.fn T0 ps asq bd r)))
 (hlen:xs.length=ps.toList.length)
 (hw:(tree C false (appL n.ro []) asq (bindEnv (ps.toList.map fun p=>(p,Kind.any)) xs (bindEnv n.slots vs e₁)) fun x e''=>match x with
     | .fall=>tree C false (appL n.ro []) bd e'' fun x e3=>leafT (some id) e3 n.slots x
     | _=>.fail).wp X C.P Qb hb)
 (hre:∀ e3 t' σ'' hq' vs',Sim σ'' (appL n.ro []) PBb e3 t' hq'->Fr (wrOf ps asq bd) PBb σ T0 hp1 σ'' t' hq'->collect e3 n.slots=some vs'->Inn σ (appL n.ro []) PB1 PBb n.slots e₁ (wrOf ps asq bd) T0 hp1 vs' hq' σ'')
 (hk:∀ v h',A v h'->R₂ (G (fr₂.finish v) cs₂) h')
 (hA:∀ (x:LExit) (vs':List Value) (hb':LH) (hq':Cells) (σ'':Nat->Nat) (h':LH),LeafIs (some id) x vs' Qb hb'->Inn σ (appL n.ro []) PB1 PBb n.slots e₁ (wrOf ps asq bd) T0 hp1 vs' hq' σ'' ->
   Core hb' hq' l (loopObj (endSt x) (endJump x) fn.fn T0 ps asq bd r) h'->A (.bool (endGo x)) h') :
  R₂ (G (Frame.round l fn.fn ((ps.toList.zip xs).foldl (fun t (x:Nat×Value)=>t.setIfInBounds x.1 x.2) T0) asq bd .normal) (fr₂::cs₂)) { hb with get:=(hb.get.add hq).add (oneC l (loopObj .ready pd fn.fn T0 ps asq bd r)) }:=by
 have hps:∀ p∈ps.toList,p∈wrOf ps asq bd:=fun p hp=>by unfold wrOf;rw[appL_eq];exact List.mem_append.2 (.inl hp)
 have has:∀ p∈dsts asq,p∈wrOf ps asq bd:=fun p hp=>by unfold wrOf;rw[appL_eq,appL_eq];exact List.mem_append.2 (.inr (List.mem_append.2 (.inl hp)))
 have hbd:∀ p∈dsts bd,p∈wrOf ps asq bd:=fun p hp=>by unfold wrOf;rw[appL_eq,appL_eq];exact List.mem_append.2 (.inr (List.mem_append.2 (.inr hp)))
 let fn₂:FI:=⟨fn.fn,.normal,by simp⟩
 let T1:=(ps.toList.zip xs).foldl (fun t (x:Nat×Value)=>t.setIfInBounds x.1 x.2) T0;have s1:Sim σ' (appL n.ro []) PBb (bindEnv (ps.toList.map fun p=>(p,Kind.any)) xs (bindEnv n.slots vs e₁)) T1 hq:=Sim.params _ _ _ _ i0.simB fun p hp=>hd p (hps p hp);have hT1:T1.size=T0.size:=foldl_size _ _;have f1:Fr (wrOf ps asq bd) PBb σ T0 hp1 σ' T1 hq:=by
  refine⟨hT1,fun i hi=>?_,i0.fr.names,i0.fr.prot⟩;exact foldl_other _ _ fun p hp e=>hi (e▸hps p.1 (List.of_mem_zip hp).1)
 have live1:∀ b,PBb b->∃ x,hq b=some x:=fun b hb'=>by rw[i0.fr.prot b hb'];exact hlive b hb'
 -- the parameters are taken
 have key:=tree_sound (fn:=fn₂) (ds:=[]) (rd:=some l) (cs:=fr₂::cs₂) hX (hR₂.frame hX (oneC l (loopObj .ready pd fn.fn T0 ps asq bd r))) (hX.stk _ _) asq false (appL n.ro []) PBb _ _ T1 [.beginRound,.code bd] σ' hq hb Qb (by intro hf;cases hf) s1 dj live1
  (fun d hdd=>by rw[hT1];exact hd d (has d hdd)) hw ?_
 ·have e1:hb.add hq={ hb with get:=hb.get.add hq }:=rfl;have:=key dl;exact this
 ·intro x e'' t'' σ'' hq'' hb'' s'' dj'' f'' hT'';cases x with
  | ret=>exact hT''.elim
  | exit j=>exact hT''.elim
  | fall =>
   intro dl'';have hln:(hb''.get.add hq'') l=none:=oneC_none dl'';refine mv_beginRound (P:=C.P) (pd:=pd) (f:=fn.fn) (T0:=T0) (ps:=ps) (asq:=asq) (bd:=bd) (r:=r) hR₂.1 (add_oneC_get hln) ?_;have e2:((hb''.add hq'').add (oneC l (loopObj .ready pd fn.fn T0 ps asq bd r))).get.upd l (true,loopObj .busy pd fn.fn T0 ps asq bd r)=(hb''.get.add hq'').add (oneC l (loopObj .busy pd fn.fn T0 ps asq bd r)):=add_oneC_upd hln;have f2:Fr (wrOf ps asq bd) PBb σ T0 hp1 σ'' t'' hq'':=f1.trans f'' (fun _ h=>h) has;have key2:=tree_sound (fn:=fn₂) (ds:=[]) (rd:=some l) (cs:=fr₂::cs₂) hX (hR₂.frame hX (oneC l (loopObj .busy pd fn.fn T0 ps asq bd r))) (hX.stk _ _) bd false (appL n.ro []) PBb _ _ t'' [] σ'' hq'' hb'' Qb (by intro hf;cases hf) s'' dj'' (fun b hb'=>by rw[f2.prot b hb'];exact hlive b hb')
    (fun d hdd=>by rw[f2.size];exact hd d (hbd d hdd)) hT'' ?_
   ·have:=key2 (oneC_disj dl'');show R₂ _ { hb''.add hq'' with get:=((hb''.add hq'').add (oneC l (loopObj .ready pd fn.fn T0 ps asq bd r))).get.upd l (true,loopObj .busy pd fn.fn T0 ps asq bd r) };rw[e2];exact this
   ·intro x e3 t3 σ3 hq3 hb3 s3 dj3 f3 hT3;obtain⟨vs',hcol,hleaf⟩:=leafT_wp hT3;have f4:Fr (wrOf ps asq bd) PBb σ T0 hp1 σ3 t3 hq3:=f2.trans f3 (fun _ h=>h) hbd;have inn:=hre e3 t3 σ3 hq3 vs' s3 f4 hcol;have fin:∀ (todo:List Item) (jump:Option Code),RoundEnd todo jump->jump=(endJump x)->Disj (hb3.add hq3).get (oneC l (loopObj .busy pd fn.fn T0 ps asq bd r)) ->
      R₂ (G (mkF fn₂ [] (some l) t3 todo) (fr₂::cs₂)) ((hb3.add hq3).add (oneC l (loopObj .busy pd fn.fn T0 ps asq bd r))):=by
     intro todo jump hre' hj dl3;have hln3:(hb3.get.add hq3) l=none:=oneC_none dl3;refine mv_endRound (P:=C.P) hR₂.1 rfl hre' (add_oneC_get hln3) ?_;have e3':((hb3.add hq3).add (oneC l (loopObj .busy pd fn.fn T0 ps asq bd r))).get.upd l (true,loopObj (if jump.isNone then .ready else .done) jump fn.fn T0 ps asq bd r)=(hb3.get.add hq3).add (oneC l (loopObj (if jump.isNone then .ready else .done) jump fn.fn T0 ps asq bd r)):=add_oneC_upd hln3;have hcore:Core hb3 hq3 l (loopObj (endSt x) (endJump x) fn.fn T0 ps asq bd r) { hb3 with get:=(hb3.get.add hq3).add (oneC l (loopObj (if jump.isNone then .ready else .done) jump fn.fn T0 ps asq bd r)) }:=by
      refine⟨?_,dj3,oneC_disj dl3⟩;subst hj;cases x<;>rfl
     have hres:=hk _ _ (hA x vs' hb3 hq3 σ3 _ hleaf inn hcore);have hbool:(Value.bool (endGo x))=.bool jump.isNone:=by subst hj;cases x<;>rfl
     rw[hbool]at hres;show R₂ _ { hb3.add hq3 with get:=((hb3.add hq3).add (oneC l (loopObj .busy pd fn.fn T0 ps asq bd r))).get.upd l (true,loopObj (if jump.isNone then .ready else .done) jump fn.fn T0 ps asq bd r) };rw[e3'];exact hres
    cases x with
    | fall=>exact fin [] none .fall rfl
    | ret=>exact fun k'=>fin _ _ (.ret k') rfl
    | exit j=>exact fun k' hk'=>fin _ _ (.exit j k' (by rw[hk'];rfl)) rfl
end
end
section
section
variable {X:XP} {C:Ctx} {main:Bool} {R:Goroutine->LH->Prop} {cs:List Frame} {fn:FI} {Q:Leaf->LH->Prop}
theorem rf_sound(hX:XOK X)(hR:Closed X C.P main R){ds:List Deferred}{k:List Item}{id:Nat}{f:Operand}{ps:Array Tmp}{asq bd:Code}{PB:Nat->Prop}{e:Env}{T0:Array Value}{σ:Nat->Nat}{hp:Cells}{h:LH}{kT:LExit->Env->T}
 (s:Sim σ [] PB e T0 hp)(dj:Disj h.get hp)(hPB:∀ b,PB b->∃ x,hp b=some x)(hd:∀ d∈wrOf ps asq bd,d<T0.size/\d<4096)(hT:(rfT C id f ps asq bd e kT).wp X C.P Q h)
 (hk:BehindS X C.P R fn cs k (wrOf ps asq bd) PB ds σ T0 hp kT Q):R (G (mkF fn ds none T0 (.code (.block id (.rangeFunc f ps asq bd))::k)) cs) (h.add hp):=by
 unfold rfT at hT;split at hT
 ·rename_i n hn;split at hT
  ·rename_i hchk;simp only[Bool.and_eq_true]at hchk;obtain⟨hpriv,hfree⟩:=hchk;obtain⟨fv,hfv,hT⟩:=withV_wp hT;obtain⟨init,hinit,hT⟩:=withC_wp hT;obtain⟨S,nx,fin,s₀,h₀,hm,k₀,heq,hdk,hle,hH,hY⟩:=hT;refine mv_block hR.1 (mv_enterLoop (fv:=fv) hR.1 ?_ ?_)
   ·intro fr hfr;have:=s.eval (fn:=fn) (ds:=ds) (rd:=none) (k:=[]) hfv (by simp);simp only[conc]at this;rw[<- this];cases f<;>simp[Frame.eval,mkF,hfr]
   ·intro r l hr hl hrl;have hhr:h.get r=none:=by
     cases hx:h.get r with
     | none=>rfl
     | some x=>rw[show (h.add hp).get r=some x from Cells.add_left hx]at hr;cases hr
    have hpr:hp r=none:=by rw[show (h.add hp).get r=hp r from Cells.add_right hhr]at hr;exact hr
    have hhl:h.get l=none:=by
     cases hx:h.get l with
     | none=>rfl
     | some x=>rw[show (h.add hp).get l=some x from Cells.add_left hx]at hl;cases hl
    have hpl:hp l=none:=by rw[show (h.add hp).get l=hp l from Cells.add_right hhl]at hl;exact hl
    let hp1:Cells:=hp.upd r (true,.deferred (some []));let PB1:Nat->Prop:=fun b=>PB b\/b=r;let e₁:=stays (wrOf ps asq bd) (appL n.ro []) e;let PBb:Nat->Prop:=prot' PB1 σ n.ro e;have hrp:∀ b x,hp b=some x->b≠r:=by rintro b x hx rfl;rw[hpr]at hx;cases hx
    have hple:∀ b x,hp b=some x->hp1 b=some x:=fun b x hx=>by show hp.upd r _ b=_;rw[Cells.upd_ne _ _ (hrp b x hx)];exact hx
    have hp1r:hp1 r=some (true,.deferred (some [])):=Cells.upd_self _ _ _;have s1:Sim σ [] PB1 e T0 hp1:=by
     have s0:=s.le hple;refine⟨s0.slot,s0.cell,s0.only,s0.inj,?_,fun _ _ _ _ h=>by cases h⟩;rintro t a ht hg hro (h1|h1)
     ·exact s.prot t a ht hg hro h1
     ·obtain⟨v,rfl⟩:=s.only t a ht hg;obtain⟨c,el,h2,_⟩:=s.cell t v ht hg;exact hrp _ _ h2 h1
    have live1:∀ b,PB1 b->∃ x,hp1 b=some x:=by
     rintro b (hb|rfl)
     ·obtain⟨x,hx⟩:=hPB b hb;exact⟨x,hple b x hx⟩
     ·exact⟨_,hp1r⟩
    have liveb:∀ b,PBb b->∃ x,hp1 b=some x:=s1.guarded_live n.ro live1;have hre:∀ e3 t' σ'' hq' vs',Sim σ'' (appL n.ro []) PBb e3 t' hq'->Fr (wrOf ps asq bd) PBb σ T0 hp1 σ'' t' hq'->collect e3 n.slots=some vs'->Inn σ (appL n.ro []) PB1 PBb n.slots e₁ (wrOf ps asq bd) T0 hp1 vs' hq' σ'':=by
     intro e3 t' σ'' hq' vs' s' f' hc;obtain⟨sA,sB⟩:=s1.rebind s' f' hc hfree;have same:∀ i a,i<4096->(bindEnv n.slots vs' e₁).get i=some a->T0[i]?=t'[i]?:=by
      intro i a hi hg;rw[bindEnv_slots_priv hpriv hi]at hg;obtain⟨_,_,_,_,hW⟩:=get_stays hg;exact(f'.slots i (hW hi)).symm
     exact⟨sA.tmps same,sB.tmps same,⟨rfl,fun _ _=>rfl,f'.names,f'.prot⟩⟩
    have inn0:Inn σ (appL n.ro []) PB1 PBb n.slots e₁ (wrOf ps asq bd) T0 hp1 init hp1 σ:=hre e T0 σ hp1 init (s1.guarded n.ro) Fr.refl hinit;let lob:=fun st pd=>loopObj st pd fn.fn T0 ps asq bd r;let body:=fun xs vs=>T.unShs n.ps xs fun xs=>bindS n.slots vs e₁ fun e'=>bindPs ps.toList xs e' fun e'=>tree C false (appL n.ro []) asq e' fun x e''=>match x with
     | .fall=>tree C false (appL n.ro []) bd e'' fun x e3=>leafT (some id) e3 n.slots x
     | _=>.fail
    let kf:=fun vs=>bindS n.slots vs e₁ (kT .fall);let kr:=fun vs=>bindS n.slots vs e₁ (kT .ret);let ko:=outT (fun j vs=>bindS n.slots vs e₁ (kT (.exit j))) n.outs;let Z:=ZG X C.P Q nx fin h₀ body kf kf kr ko;have hZ:Z s₀ init hm:=hY;let J:S->LH->Prop:=fun i h'=>∃ vs hb hq σ',Core hb hq l (lob .ready none) h'/\Inn σ (appL n.ro []) PB1 PBb n.slots e₁ (wrOf ps asq bd) T0 hp1 vs hq σ'/\Z i vs hb;let E:LH->Prop:=fun h'=>∃ (x:LExit) (vs:List Value) (hb:LH) (hq:Cells) (σ':Nat->Nat),x≠.fall/\Core hb hq l (lob .done (endJump x)) h'/\Inn σ (appL n.ro []) PB1 PBb n.slots e₁ (wrOf ps asq bd) T0 hp1 vs hq σ' /\
     LeafIs (some id) x vs (fun l h'=>l.go h' (fun _ _=>False) (fun vs h'=>(kf vs).wp X C.P Q h') (fun vs h'=>(kr vs).wp X C.P Q h') (fun j vs h'=>(ko j vs).wp X C.P Q h')) hb
    have hheap:((h.add hp).get.upd r (true,.deferred (some []))).upd l (true,loopObj .ready none fn.fn T0 ps asq bd r)=(h.get.add hp1).add (oneC l (lob .ready none)):=by
     funext b;unfold Cells.upd Cells.add oneC;show _=_;by_cases e1:b=l
     ·subst e1;simp[hhl,hp1,Cells.upd,Ne.symm hrl,hpl,lob]
     ·by_cases e2:b=r
      ·subst e2;simp[e1,hhr,hp1,Cells.upd]
      ·simp only[e1,e2,if_false,LH.add,Cells.add,hp1,Cells.upd];cases h.get b with
       | some x=>rfl
       | none=>cases hp b<;>rfl
    have dj1:Disj h.get hp1:=by
     intro b;by_cases e2:b=r
     ·subst e2;exact .inl hhr
     ·rcases dj b with h1|h1
      ·exact .inl h1
      ·right;show hp.upd r _ b=none;rw[Cells.upd_ne _ _ e2];exact h1
    have hln:(h.get.add hp1) l=none:=by
     rw[Cells.add_right hhl];show hp.upd r _ l=none;rw[Cells.upd_ne _ _ (Ne.symm hrl)];exact hpl
    rw[hheap];have hJup:∀ i h' k',J i h'->Disj h'.get k'->J i (h'.add k'):=by
     rintro i h' k' ⟨vs,hb,hq,σ',c,inn,z⟩ d;exact⟨vs,hb,hq.add k',σ',c.up d,inn.le liveb k',z⟩
    have hEup:∀ h' k',E h'->Disj h'.get k'->E (h'.add k'):=by
     rintro h' k' ⟨x,vs,hb,hq,σ',hx,c,inn,z⟩ d;exact⟨x,vs,hb,hq.add k',σ',hx,c.up d,inn.le liveb k',z⟩
    have leCore:∀ {hb:LH} {hq:Cells} {o:Obj} {h':LH},LH.le h₀ hb->Core hb hq l o h'->LH.le h₀ h':=by
     rintro hb hq o h' hl0 ⟨rfl,_,_⟩;exact⟨fun b x hx=>Cells.add_left (Cells.add_left (hl0.1 b x hx)),hl0.2⟩
    have hcall:∀ i h' xs i',LH.le h₀ h'->nx i xs i'->J i h'->CV X C.P (.func (.yield l) #[] #[]) xs.toArray h' fun b h''=>LH.le h₀ h''/\((b=.bool true/\J i' h'')\/(b=.bool false/\E h'')):=by
     rintro i h' xs i' hle' hi ⟨vs,hb,hq,σ',⟨rfl,d1,d2⟩,inn,z⟩ main₂ R₂ hR₂ fr₂ cs₂ hk₂;obtain⟨hleb,_,hw⟩:=z.out;have hw:=hw xs i' hi;have hw2:=bindS_wp (unShs_wp hw);obtain⟨hlen,hw3⟩:=bindPs_wp hw2;have hll:((hb.get.add hq).add (oneC l (lob .ready none))) l=some (true,lob .ready none):=add_oneC_get (oneC_none d2);show Sem.lwp C.P (Instr.yield l (#[]++xs.toArray)) _ _ _;unfold Instr.yield;refine lwp_getLoop hll ?_;have hsz:¬ ((#[]++xs.toArray).size≠ps.size):=by simp[hlen]
     simp only[hsz,if_false];show R₂ (G (Frame.round l fn.fn _ asq bd .normal) (fr₂::cs₂)) _;have hT1:(ps.zip (#[]++xs.toArray)).foldl (fun tmps (x:Nat×Value)=>tmps.setIfInBounds x.1 x.2) T0=(ps.toList.zip xs).foldl (fun t (x:Nat×Value)=>t.setIfInBounds x.1 x.2) T0:=by
      rw[<- Array.foldl_toList];simp
     have:=round_sound (pd:=none) (h₀:=h₀) (A:=fun b h''=>LH.le h₀ h''/\((b=.bool true/\J i' h'')\/(b=.bool false/\E h''))) hX hR₂ (fr₂:=fr₂) (cs₂:=cs₂) liveb hd inn d1 d2 hlen hw3 hre (fun v h'' hA=>by
      have h1:=hk₂ v h'' (fun _=>none) (fun _=>.inr rfl) hA;have e0:h''.add (fun _=>none)=h'':=by
       unfold LH.add;have:h''.get.add (fun _=>none)=h''.get:=by funext b;unfold Cells.add;cases h''.get b<;>rfl
       rw[this]
      rw[e0]at h1;exact h1) (by
      intro x vs' hb' hq' σ'' h'' hleaf inn' hcore;cases x with
      | fall =>
       obtain⟨hl1,hz⟩:=hleaf;exact⟨leCore hl1 hcore,.inl ⟨rfl,vs',hb',hq',σ'',hcore,inn',hz⟩⟩
      | ret =>
       obtain⟨hl1,hz⟩:=hleaf;exact⟨leCore hl1 hcore,.inr ⟨rfl,.ret,vs',hb',hq',σ'',by simp,hcore,inn',hz⟩⟩
      | exit j =>
       unfold LeafIs at hleaf;simp only at hleaf;split at hleaf
       ·rename_i ej;obtain⟨hl1,hz⟩:=hleaf;refine⟨leCore hl1 hcore,.inr ⟨rfl,.exit j,vs',hb',hq',σ'',by simp,hcore,inn',?_⟩⟩;unfold LeafIs;simp only[if_pos ej];exact hz
       ·rename_i ej;obtain⟨hl1,hz⟩:=hleaf;refine⟨leCore hl1 hcore,.inr ⟨rfl,.exit j,vs',hb',hq',σ'',by simp,hcore,inn',?_⟩⟩;unfold LeafIs;simp only[if_neg ej];exact hz)
     first|exact hT1▸this|(rw[<- hT1]at this;exact this)|exact this
    -- behind the loop
    have after:∀ (x:LExit) (vs:List Value) (hb:LH) (hq:Cells) (σ':Nat->Nat) (o:Obj),Disj hb.get hq->Disj (hb.get.add hq) (oneC l o)->Inn σ (appL n.ro []) PB1 PBb n.slots e₁ (wrOf ps asq bd) T0 hp1 vs hq σ'->(kT x (bindEnv n.slots vs e₁)).wp X C.P Q hb ->
      XR R fn (markOf r::ds) none T0 cs { hb with get:=(hb.get.add hq).add (oneC l o) } k x:=by
     intro x vs hb hq σ' o d1 d2 inn hw;have hdis:Disj hb.get (hq.add (oneC l o)):=by
      intro b;rcases d2 b with h1|h1
      ·cases hx:hb.get b with
       | none=>exact .inl rfl
       | some y=>rw[Cells.add_left hx]at h1;cases h1
      ·rcases d1 b with h2|h2
       ·exact .inl h2
       ·right;rw[Cells.add_right h2];exact h1
     have hq1:∀ b,PB1 b->hq b=hp1 b:=fun b hb1=>inn.fr.prot b (.inl hb1);have keepq:∀ b,PB1 b->(hq.add (oneC l o)) b=hp1 b:=fun b hb1=>by
      obtain⟨y,hy⟩:=live1 b hb1;rw[Cells.add_left (by rw[hq1 b hb1];exact hy),hy]
     have:=hk x (bindEnv n.slots vs e₁) T0 σ' (hq.add (oneC l o)) hb PB1 [r] (inn.simA.le fun _ _ hx=>Cells.add_left hx) hdis
      ⟨rfl,fun _ _=>rfl,inn.fr.names,fun b hb1=>by
       obtain⟨y,hy⟩:=hPB b hb1;rw[keepq b (.inl hb1),hple b y hy,hy]⟩
      (fun b hb1=>.inl hb1)
      (fun b hb1=>by rw[keepq b hb1];exact live1 b hb1)
      (fun r' hr'=>by
       simp at hr';subst hr';exact⟨.inr rfl,by rw[keepq r' (.inr rfl)];exact hp1r⟩) (by simp) (fun r' hr' hP=>by
       simp at hr';subst hr';obtain⟨y,hy⟩:=hPB _ hP;exact hrp _ _ hy rfl) hw
     have e0:hb.add (hq.add (oneC l o))={ hb with get:=(hb.get.add hq).add (oneC l o) }:=by unfold LH.add;rw[add_assoc']
     rw[e0]at this;exact this
    have hfin:∀ v h' k',Disj h'.get k'->(LH.le h₀ h'/\((∃ s,fin s/\J s h')\/E h'))->R (G ((mkF fn (markOf r::ds) none T0 (.inRangeFunc l::.inBlock id::k)).finish v) cs) (h'.add k'):=by
     intro v h' k' d hq0;refine hR.1.up _ _ k' ?_ d;show R (G (mkF fn (markOf r::ds) none T0 (.endRangeFunc l::.inBlock id::k)) cs) h';obtain⟨_,hJ|hE⟩:=hq0
     ·obtain⟨s1,hs1,vs,hb,hq,σ',⟨rfl,d1,d2⟩,inn,z⟩:=hJ;have hn0:=oneC_none d2;refine mv_endLoop (P:=C.P) hR.1 (by rfl) (add_oneC_get hn0) ?_;show R (G (mkF fn (markOf r::ds) none T0 (.inBlock id::k)) cs) { hb with get:=((hb.get.add hq).add (oneC l (lob .ready none))).upd l (true,loopObj .exhausted none fn.fn T0 ps asq bd r) };rw[add_oneC_upd hn0];exact mv_inBlock hR.1 (after .fall vs hb hq σ' _ d1 (oneC_disj d2) inn (bindS_wp (z.out.2.1 hs1)))
     ·obtain⟨x,vs,hb,hq,σ',hx,⟨rfl,d1,d2⟩,inn,z⟩:=hE;have hn0:=oneC_none d2;refine mv_endLoop (P:=C.P) hR.1 (by rfl) (add_oneC_get hn0) ?_;show R (G (mkF fn (markOf r::ds) none T0 (((endJump x).map Item.code).toList++.inBlock id::k)) cs) { hb with get:=((hb.get.add hq).add (oneC l (lob .done (endJump x)))).upd l (true,loopObj .exhausted (endJump x) fn.fn T0 ps asq bd r) };rw[add_oneC_upd hn0];cases x with
      | fall=>exact absurd rfl hx
      | ret=>exact after .ret vs hb hq σ' _ d1 (oneC_disj d2) inn (bindS_wp z) (.inBlock id::k)
      | exit j =>
       unfold LeafIs at z;simp only at z;split at z
       ·rename_i ej;cases ej;have:=after .fall vs hb hq σ' (loopObj .exhausted (some (.exit id)) fn.fn T0 ps asq bd r) d1 (oneC_disj d2) inn (bindS_wp z);exact mv_exit hR.1 (by simp[exitTo]) this
       ·rename_i ej;have hw:=bindS_wp (outT_wp z);refine after (.exit j) vs hb hq σ' _ d1 (oneC_disj d2) inn hw (.inBlock id::k) ?_;have:(id==j)=false:=by
         cases hb':(id==j) with
         | false=>rfl
         | true=>exact absurd (by rw[eq_of_beq hb']) ej
        simp[exitTo,this]
    have dj1':Disj (hm.get.add k₀) hp1:=by have:=dj1;rw[heq]at this;exact this
    have hhl':(hm.get.add k₀) l=none:=by have:=hhl;rw[heq]at this;exact this
    have dm1:Disj hm.get hp1:=dj1'.of_add_left;have dk1:Disj k₀ hp1:=Disj.of_add_right hdk dj1';have hml0:hm.get l=none:=by
     cases hx:hm.get l with
     | none=>rfl
     | some y=>rw[Cells.add_left hx]at hhl';cases hhl'
    have hkl:k₀ l=none:=by rw[Cells.add_right hml0]at hhl';exact hhl'
    have hml:(hm.get.add hp1) l=none:=by
     rw[Cells.add_right hml0];show hp.upd r _ l=none;rw[Cells.upd_ne _ _ (Ne.symm hrl)];exact hpl
    have dko:Disj k₀ (oneC l (lob .ready none)):=disj_oneC hkl;have hdk':Disj ((hm.get.add hp1).add (oneC l (lob .ready none))) k₀:=Disj.add (Disj.add hdk dk1.symm) dko.symm;have hcells:(h.get.add hp1).add (oneC l (lob .ready none))=((hm.get.add hp1).add (oneC l (lob .ready none))).add k₀:=by
     rw[heq];show ((hm.get.add k₀).add hp1).add _=_;rw[Cells.add_swap dk1,Cells.add_swap dko]
    have hcv:=hH (.func (.yield l) #[] #[]) J E hJup hEup hcall { hm with get:=(hm.get.add hp1).add (oneC l (lob .ready none)) } (leCore hle ⟨rfl,dm1,disj_oneC hml⟩)
     ⟨init,hm,hp1,σ,⟨rfl,dm1,disj_oneC hml⟩,inn0,hZ⟩ hdk' main R hR (mkF fn (markOf r::ds) none T0 (.inRangeFunc l::.inBlock id::k)) cs hfin
    have hmem:({ hm with get:=(hm.get.add hp1).add (oneC l (lob .ready none)) }:LH).add k₀={ h with get:=(h.get.add hp1).add (oneC l (lob .ready none)) }:=by
     rw[hcells];clear hcv;subst heq;rfl
    rw[hmem]at hcv;exact hcv
  ·exact hT.elim
 ·exact hT.elim
end
end
section
section
variable {X:XP} {C:Ctx} {main:Bool} {R:Goroutine->LH->Prop} {cs:List Frame} {fn:FI}
theorem BehindS.toX{k:List Item}{PB:Nat->Prop}{ds:List Deferred}{D:List Nat}{σ:Nat->Nat}{tmps:Array Value}{hp:Cells}{kT:LExit->Env->T}{Q:Leaf->LH->Prop}(hPB:∀ b,PB b->∃ x,hp b=some x)
 (hk:BehindS X C.P R fn cs k D PB ds σ tmps hp kT Q):BehindX X C.P R fn ds none cs k D [] PB σ tmps hp kT Q:=by
 intro x e' tmps' σ' hp' h' s' dj' f' hT';exact hk x e' tmps' σ' hp' h' PB [] s' dj' f' (fun b hb=>hb) (fun b hb=>by rw[f'.prot b hb];exact hPB b hb) (fun r hr=>by cases hr) List.nodup_nil (fun r hr=>by cases hr) hT'
theorem BehindS.step{k:List Item}{D D₁ D₂:List Nat}{PB PB':Nat->Prop}{ds:List Deferred}{σ σ':Nat->Nat}{tmps tmps':Array Value}{hp hp':Cells}{mk:List Nat}{kT:LExit->Env->T}{Q:Leaf->LH->Prop}(hk:BehindS X C.P R fn cs k D PB ds σ tmps hp kT Q)
 (f:Fr D₁ PB σ tmps hp σ' tmps' hp')(hD₁:∀ d,d∈D₁->d∈D)(hD₂:∀ d,d∈D₂->d∈D)(h1:∀ b,PB b->PB' b)(h3:∀ r∈mk,PB' r/\hp' r=some (true,.deferred (some [])))(h4:mk.Nodup)(h5:∀ r∈mk,¬ PB r):BehindS X C.P R fn cs k D₂ PB' (mk.map markOf++ds) σ' tmps' hp' kT Q:=by
 intro x e'' tmps'' σ'' hp'' h'' PB'' mk' s'' dj'' f'' h1' h2' h3' h4' h5' hT'';have:=hk x e'' tmps'' σ'' hp'' h'' PB'' (mk'++mk) s'' dj'' (f.trans (f''.mono (fun _ h=>h) h1) hD₁ hD₂) (fun b hb=>h1' b (h1 b hb)) h2' (fun r hr=>by
  rcases List.mem_append.1 hr with hr|hr
  ·exact h3' r hr
  ·exact⟨h1' r (h3 r hr).1,by rw[f''.prot r (h3 r hr).1];exact(h3 r hr).2⟩)
  (List.nodup_append.2 ⟨h4',h4,fun a ha b hb e=>h5' a ha (e▸(h3 b hb).1)⟩) (fun r hr=>by
   rcases List.mem_append.1 hr with hr|hr
   ·exact fun hP=>h5' r hr (h1 r hP)
   ·exact h5 r hr) hT''
 rw[List.map_append,List.append_assoc]at this;exact this
theorem Sim.rebindS{W:List Nat}{σ σ':Nat->Nat}{PB PB':Nat->Prop}{e e':Env}{tmps tmps':Array Value}{hp hp':Cells}{L:List (Nat×Kind)}{vs:List Value}(s:Sim σ [] PB e tmps hp)(s':Sim σ' [] PB' e' tmps' hp')(f:Fr W PB σ tmps hp σ' tmps' hp')(hc:collect e' L=some vs) :
  Sim σ' [] PB' (bindEnv L vs (stays W [] e)) tmps' hp':=by
 have hget:=@bindEnv_get L vs (stays W [] e) e' hc;have hbig:∀ t a,4096<=t->(bindEnv L vs (stays W [] e)).get t=some a->e'.get t=some a:=by
  intro t a ht hg;rcases hget t a hg with⟨_,h1,_⟩|h1
  ·exact h1
  ·obtain⟨_,_,_,h3,_⟩:=get_stays h1;have:=(h3 ht).1;simp at this
 refine⟨?_,fun t v ht h=>s'.cell t v ht (hbig _ _ ht h),fun t a ht h=>s'.only t a ht (hbig _ _ ht h),fun t t' a a' ht ht' h h'=>s'.inj t t' a a' ht ht' (hbig _ _ ht h) (hbig _ _ ht' h'),
  fun t a ht h=>s'.prot t a ht (hbig _ _ ht h),fun t a ht h=>s'.cover t a ht (hbig _ _ ht h)⟩
 intro i a hi hg hb;rcases hget i a hg with⟨_,h1,_⟩|h1
 ·exact s'.slot i a hi h1 hb
 ·obtain⟨a₀,h2,h3,_,h4⟩:=get_stays h1;rw[f.slots i (h4 hi)];subst h3;cases a₀ with
  | val v=>exact s.slot i _ hi h2 (by simp)
  | pp k o =>
   have hk:memN W k=false:=by
    cases hk:memN W k with
    | false=>rfl
    | true=>exact absurd (show AV.scrap (memN W) (.pp k o)=.bad by simp[AV.scrap,hk]) hb
   rw[s.slot i _ hi h2 (by simp)];simp[AV.scrap,hk,conc,f.names k (memN_false.1 hk)]
  | bad=>exact absurd rfl hb
theorem spine_sound(hX:XOK X)(hR:Closed X C.P main R)(hst:X.stk C.P fn.kd cs):(c:Code)->∀ (fin:Bool) (PB:Nat->Prop) (ds:List Deferred) (e:Env) (kT:LExit->Env->T) (tmps:Array Value) (k:List Item) (σ:Nat->Nat) (hp:Cells) (h:LH) (Q:Leaf->LH->Prop),
  (fin=true->k=[]/\ds=[]/\(none:Option Nat)=none/\fn.kd=.deferred/\∃ fd,C.P.funcs[fn.fn]?=some fd/\fd.results=#[])->Sim σ [] PB e tmps hp->Disj h.get hp->(∀ b,PB b->∃ x,hp b=some x)->(∀ d∈dsts c,d<tmps.size/\d<4096)->(spine C fin c e kT).wp X C.P Q h ->
  BehindS X C.P R fn cs k (dsts c) PB ds σ tmps hp kT Q->R (G (mkF fn ds none tmps (.code c::k)) cs) (h.add hp)
 | .seq a b=>by
  intro fin PB ds e kT tmps k σ hp h Q hfin s dj hPB hd hT hk;have hda:∀ d∈dsts a,d<tmps.size/\d<4096:=fun d h=>hd d (by rw[dsts,appL_eq];simp[h]);have hdb:∀ d∈dsts b,d<tmps.size/\d<4096:=fun d h=>hd d (by rw[dsts,appL_eq];simp[h]);have ina:∀ d,d∈dsts a->d∈dsts (.seq a b):=fun d h=>by rw[dsts,appL_eq];simp[h]
  have inb:∀ d,d∈dsts b->d∈dsts (.seq a b):=fun d h=>by rw[dsts,appL_eq];simp[h]
  unfold spine at hT;split at hT
  ·exact tree_sound hX hR hst (.seq a b) _ _ _ _ _ _ _ _ _ _ _ hfin s dj hPB hd hT (hk.toX hPB)
  ·refine mv_seq hR.1 ?_;have next:∀ {σ':Nat->Nat} {e':Env} {tmps':Array Value} {hp':Cells} {h':LH} {PB':Nat->Prop} {mk:List Nat},Sim σ' [] PB' e' tmps' hp'->Disj h'.get hp'->Fr (dsts a) PB σ tmps hp σ' tmps' hp'->(∀ b,PB b->PB' b)->(∀ b,PB' b->∃ x,hp' b=some x) ->
     (∀ r∈mk,PB' r/\hp' r=some (true,.deferred (some [])))->mk.Nodup->(∀ r∈mk,¬ PB r)->(spine C false b e' kT).wp X C.P Q h'->R (G (mkF fn (mk.map markOf++ds) none tmps' (.code b::k)) cs) (h'.add hp'):=by
    intro σ' e' tmps' hp' h' PB' mk s' dj' f' h1 h2 h3 h4 h5 hT';refine spine_sound hX hR hst b false PB' _ e' kT tmps' k σ' hp' h' Q (by intro hf;cases hf) s' dj' h2 (by rw[f'.size];exact hdb) hT' ?_;exact hk.step f' ina inb h1 h3 h4 h5
   split at hT
   ·rename_i n hra hn;split at hT
    ·rename_i hfree;simp only[T.wp]at hT;refine tree_sound hX hR hst a _ _ _ _ _ _ _ _ _ _ _ (by simp) (s.guarded n.ro) dj (s.guarded_live n.ro hPB) hda hT ?_;intro x e' t' σ' hp' h' s' dj' f' hT';obtain⟨hT',hpps⟩:=ppsT_wp hT';obtain⟨vs,hc,hl⟩:=leafT_wp hT';obtain⟨s₁,_⟩:=s.rebind s' f' hc hfree;have f₁:Fr (dsts a) PB σ tmps hp σ' t' hp':=f'.mono (fun _ h=>h) (fun _ h=>.inl h);have h2:∀ b,PB b->∃ x,hp' b=some x:=fun b hb=>by rw[f₁.prot b hb];exact hPB b hb
     have f₂:Fr (dsts (.seq a b)) PB σ tmps hp σ' t' hp':=f₁.mono ina (fun _ h=>h);cases x with
     | fall=>exact next (mk:=[]) (s₁.addPP s' (hpps rfl)) dj' f₁ (fun _ h=>h) h2 (fun r hr=>by cases hr) List.nodup_nil (fun r hr=>by cases hr) (bindS_wp hl)
     | ret=>exact hk .ret _ t' σ' hp' h' PB [] s₁ dj' f₂ (fun _ h=>h) h2 (fun r hr=>by cases hr) List.nodup_nil (fun r hr=>by cases hr) (bindS_wp hl)
     | exit j =>
      rw[LeafIs,if_neg (by simp)]at hl;exact hk (.exit j) _ t' σ' hp' h' PB [] s₁ dj' f₂ (fun _ h=>h) h2 (fun r hr=>by cases hr) List.nodup_nil (fun r hr=>by cases hr) (bindS_wp (outT_wp hl))
    ·exact hT.elim
   refine spine_sound hX hR hst a false PB ds e _ tmps (.code b::k) σ hp h Q (by intro hf;cases hf) s dj hPB hda hT ?_;intro x e' tmps' σ' hp' h' PB' mk s' dj' f' h1 h2 h3 h4 h5 hT';have f₂:Fr (dsts (.seq a b)) PB σ tmps hp σ' tmps' hp':=f'.mono ina (fun _ h=>h);cases x with
   | fall=>exact next s' dj' f' h1 h2 h3 h4 h5 hT'
   | ret=>exact hk .ret e' tmps' σ' hp' h' PB' mk s' dj' f₂ h1 h2 h3 h4 h5 hT'
   | exit j=>exact hk (.exit j) e' tmps' σ' hp' h' PB' mk s' dj' f₂ h1 h2 h3 h4 h5 hT'
 | .skip=>fun _ _ _ _ _ _ _ _ _ _ _ hfin s dj hPB hd hT hk=>tree_sound hX hR hst _ _ _ _ _ _ _ _ _ _ _ _ hfin s dj hPB hd hT (hk.toX hPB)
 | .region _ _ _=>fun _ _ _ _ _ _ _ _ _ _ _ hfin s dj hPB hd hT hk=>tree_sound hX hR hst _ _ _ _ _ _ _ _ _ _ _ _ hfin s dj hPB hd hT (hk.toX hPB)
 | .cond c a b=>by
  intro fin PB ds e kT tmps k σ hp h Q hfin s dj hPB hd hT hk;have hda:∀ d∈dsts a,d<tmps.size/\d<4096:=fun d h=>hd d (by rw[dsts,appL_eq];simp[h]);have hdb:∀ d∈dsts b,d<tmps.size/\d<4096:=fun d h=>hd d (by rw[dsts,appL_eq];simp[h]);have ina:∀ d,d∈dsts a->d∈dsts (.cond c a b):=fun d h=>by rw[dsts,appL_eq];simp[h]
  have inb:∀ d,d∈dsts b->d∈dsts (.cond c a b):=fun d h=>by rw[dsts,appL_eq];simp[h]
  unfold spine at hT;split at hT
  ·exact tree_sound hX hR hst _ _ _ _ _ _ _ _ _ _ _ _ hfin s dj hPB hd hT (hk.toX hPB)
  ·obtain⟨v,hv,hT⟩:=withV_wp hT;cases v<;>simp only[T.unB]at hT<;>first|exact hT.elim|skip
   rename_i t;refine mv_cond hR.1 (t:=t) (s.eval hv (by simp)) ?_;cases t with
   | true=>exact spine_sound hX hR hst a false PB ds e kT tmps k σ hp h Q (by intro hf;cases hf) s dj hPB hda hT (fun x e' tmps' σ' hp' h' PB' mk s' dj' f'=>hk x e' tmps' σ' hp' h' PB' mk s' dj' (f'.mono ina (fun _ h=>h)))
   | false=>exact spine_sound hX hR hst b false PB ds e kT tmps k σ hp h Q (by intro hf;cases hf) s dj hPB hdb hT (fun x e' tmps' σ' hp' h' PB' mk s' dj' f'=>hk x e' tmps' σ' hp' h' PB' mk s' dj' (f'.mono inb (fun _ h=>h)))
 | .scope c=>by
  intro fin PB ds e kT tmps k σ hp h Q hfin s dj hPB hd hT hk;unfold spine at hT;split at hT
  ·exact tree_sound hX hR hst _ _ _ _ _ _ _ _ _ _ _ _ hfin s dj hPB hd hT (hk.toX hPB)
  ·refine mv_scope hR.1 ?_;refine spine_sound hX hR hst c false PB ds e kT tmps (.inScope c::k) σ hp h Q (by intro hf;cases hf) s dj hPB (fun d h=>hd d (by simpa[dsts] using h)) hT ?_;intro x e' tmps' σ' hp' h' PB' mk s' dj' f' h1 h2 h3 h4 h5 hT';have:=hk x e' tmps' σ' hp' h' PB' mk s' dj' (f'.mono (fun _ h=>by simpa[dsts] using h) (fun _ h=>h)) h1 h2 h3 h4 h5 hT';cases x with
   | fall=>exact mv_inScope hR.1 this
   | ret=>exact this
   | exit j=>intro k' hk';exact this k' (by rw[hk'];simp[exitTo])
 | .block id (.rangeFunc f ps asq bd)=>by
  intro fin PB ds e kT tmps k σ hp h Q hfin s dj hPB hd hT hk;exact rf_sound hX hR s dj hPB (fun d hdd=>hd d (by simpa[dsts,wrOf] using hdd)) hT (fun x e' tmps' σ' hp' h' PB' mk s' dj' f'=>hk x e' tmps' σ' hp' h' PB' mk s' dj' (f'.mono (fun _ h=>by simpa[dsts,wrOf] using h) (fun _ h=>h)))
 | .block id (.loop body)=>by
  intro fin PB ds e kT tmps k σ hp h Q hfin s dj hPB hd hT hk;have hdb:∀ d∈dsts body,d<tmps.size/\d<4096:=fun d h=>hd d (by simpa[dsts] using h);have inb:∀ d,d∈dsts body->d∈dsts (.block id (.loop body)):=fun d h=>by simpa[dsts] using h
  unfold spine at hT;split at hT
  ·exact tree_sound hX hR hst _ _ _ _ _ _ _ _ _ _ _ _ hfin s dj hPB hd hT (hk.toX hPB)
  ·split at hT
   ·rename_i n hn;obtain⟨vs0,hc0,hT⟩:=withC_wp hT;refine mv_block hR.1 (mv_loop hR.1 ?_);have hY:=hT fun vs h'=>∀ t' σ' hp' PB' ds',Sim σ' [] PB' (bindEnv n.slots vs (stays (dsts body) [] e)) t' hp'->Disj h'.get hp'->Fr (dsts body) PB σ tmps hp σ' t' hp'->(∀ b,PB b->PB' b)->(∀ b,PB' b->∃ x,hp' b=some x)->BehindS X C.P R fn cs k (dsts (.block id (.loop body))) PB' ds' σ' t' hp' kT Q ->
     R (G (mkF fn ds' none t' (.code body::.inLoop body::.inBlock id::k)) cs) (h'.add hp')
    refine hY ?_ tmps σ hp PB ds (s.rebindS s Fr.refl hc0) dj Fr.refl (fun _ h=>h) hPB hk;intro vs h' hw t' σ' hp' PB' ds' s' dj' f' hsub hPB' hk';have hw:=bindS_wp hw;refine spine_sound hX hR hst body false PB' ds' _ _ t' _ σ' hp' h' _ (by intro hf;cases hf) s' dj' hPB' (by rw[f'.size];exact hdb) hw ?_;intro x e'' t'' σ'' hp'' h'' PB'' mk s'' dj'' f'' h1 h2 h3 h4 h5 hT'';obtain⟨vs'',hc,hl⟩:=leafT_wp hT'';have f₂:Fr (dsts body) PB σ tmps hp σ'' t'' hp'':=f'.trans (f''.mono (fun _ h=>h) hsub) (fun _ h=>h) (fun _ h=>h);have s₁:=s.rebindS s'' f₂ hc;have hk'':=hk'.step f'' inb (fun _ h=>h) h1 h3 h4 h5;have fin:∀ x',(kT x' (bindEnv n.slots vs'' (stays (dsts body) [] e))).wp X C.P Q h''->XR R fn (mk.map markOf++ds') none t'' cs (h''.add hp'') k x':=fun x' hw'=>by
     have:=hk'' x' _ t'' σ'' hp'' h'' PB'' [] s₁ dj'' Fr.refl (fun _ h=>h) h2 (fun r hr=>by cases hr) List.nodup_nil (fun r hr=>by cases hr) hw';simpa using this
    cases x with
    | fall=>exact mv_inLoop hR.1 (hl t'' σ'' hp'' PB'' _ s₁ dj'' f₂ (fun b hb=>h1 b (hsub b hb)) h2 hk'')
    | ret=>exact fin .ret (bindS_wp hl)
    | exit j =>
     intro k' hk3;by_cases hj:j=id
     ·subst hj;rw[LeafIs,if_pos rfl]at hl;refine mv_exit hR.1 (k':=k) ?_ (fin .fall (bindS_wp hl));rw[hk3];simp[exitTo]
     ·rw[LeafIs,if_neg (by simpa using hj)]at hl;refine fin (.exit j) (bindS_wp (outT_wp hl)) k' ?_;rw[hk3];have:(id==j)=false:=by simpa using Ne.symm hj
      simp[exitTo,this]
   ·exact hT.elim
 | .block id (.seq a b)=>by
  intro fin PB ds e kT tmps k σ hp h Q hfin s dj hPB hd hT hk;unfold spine at hT;split at hT
  ·exact tree_sound hX hR hst _ _ _ _ _ _ _ _ _ _ _ _ hfin s dj hPB hd hT (hk.toX hPB)
  ·refine mv_block hR.1 ?_;refine spine_sound hX hR hst (.seq a b) false PB ds e _ tmps (.inBlock id::k) σ hp h Q (by intro hf;cases hf) s dj hPB (fun d h=>hd d (by simpa[dsts] using h)) hT ?_;intro x e' tmps' σ' hp' h' PB' mk s' dj' f' h1 h2 h3 h4 h5 hT';have f₁:Fr (dsts (.block id (.seq a b))) PB σ tmps hp σ' tmps' hp':=f'.mono (fun _ h=>by simpa[dsts] using h) (fun _ h=>h);cases x with
   | fall=>exact mv_inBlock hR.1 (hk .fall e' tmps' σ' hp' h' PB' mk s' dj' f₁ h1 h2 h3 h4 h5 hT')
   | ret=>exact hk .ret e' tmps' σ' hp' h' PB' mk s' dj' f₁ h1 h2 h3 h4 h5 hT'
   | exit j =>
    intro k' hk';simp only at hT';cases hb:Nat.beq j id with
    | true =>
     rw[hb]at hT';refine mv_exit hR.1 (k':=k) ?_ (hk .fall e' tmps' σ' hp' h' PB' mk s' dj' f₁ h1 h2 h3 h4 h5 hT');rw[hk',nbeq_true hb];simp[exitTo]
    | false =>
     rw[hb]at hT';refine hk (.exit j) e' tmps' σ' hp' h' PB' mk s' dj' f₁ h1 h2 h3 h4 h5 hT' k' ?_;rw[hk'];have:(id==j)=false:=by simpa using Ne.symm (nbeq_false hb)
     simp[exitTo,this]
 | .block _ (.skip) | .block _ (.region _ _ _) | .block _ (.cond _ _ _) | .block _ (.block _ _) | .block _ (.scope _) | .block _ (.goto _) | .block _ (.label _) | .block _ (.exit _) | .block _ (.ret) | .block _ (.refuse _)=>by
  intro fin PB ds e kT tmps k σ hp h Q hfin s dj hPB hd hT hk;exact tree_sound hX hR hst _ _ _ _ _ _ _ _ _ _ _ _ hfin s dj hPB hd hT (hk.toX hPB)
 | .exit _=>fun _ _ _ _ _ _ _ _ _ _ _ hfin s dj hPB hd hT hk=>tree_sound hX hR hst _ _ _ _ _ _ _ _ _ _ _ _ hfin s dj hPB hd hT (hk.toX hPB)
 | .ret=>fun _ _ _ _ _ _ _ _ _ _ _ hfin s dj hPB hd hT hk=>tree_sound hX hR hst _ _ _ _ _ _ _ _ _ _ _ _ hfin s dj hPB hd hT (hk.toX hPB)
 | .loop _ | .rangeFunc _ _ _ _ | .goto _ | .label _ | .refuse _=>by
  intro fin PB ds e kT tmps k σ hp h Q hfin s dj hPB hd hT hk;exact tree_sound hX hR hst _ _ _ _ _ _ _ _ _ _ _ _ hfin s dj hPB hd hT (hk.toX hPB)
end
end
section
section
variable {X:XP} {C:Ctx}
def oneResult(tmps:Array Value):ResultVar->Sem Value
 | .tmp t=>pure (tmps.getD t undef)
 | .cell a t=>do loadVar t (<- asAddr (tmps.getD a undef))
theorem resT_wp{σ:Nat->Nat}{ro:List Nat}{PB:Nat->Prop}{e:Env}{tmps:Array Value}{hp:Cells}{h:LH}{Q:Leaf->LH->Prop}(s:Sim σ ro PB e tmps hp)(dj:Disj h.get hp):∀ {rs:List ResultVar} {kk:List Value->T},(resT C e rs kk).wp X C.P Q h ->
  ∃ vs,vs.length=rs.length/\(kk vs).wp X C.P Q h/\∀ (Qf:List Value->Cells->Prop),Qf vs (h.get.add hp)->Sem.lwp C.P (rs.mapM (oneResult tmps)) Qf (fun _ _=>False) (h.get.add hp):=by
 intro rs
 induction rs with
 | nil=>intro kk hw;exact⟨[],rfl,hw,fun Qf h=>h⟩
 | cons r rs ih =>
  intro kk hw;cases r with
  | tmp t =>
   obtain⟨v,hv,hw⟩:=withV_wp hw;obtain⟨vs,h0,h1,h2⟩:=ih (kk:=fun l=>kk (v::l)) hw;refine⟨v::vs,by simp[h0],h1,fun Qf hq=>?_⟩;have hs:=slotA_some hv;have hg:=s.slot t _ hs.1 hs.2 (by simp);rw[List.mapM_cons,lwp_bind,oneResult,lwp_pure,lwp_bind];refine h2 _ ?_;rw[lwp_pure,Array.getD_eq_getD_getElem?,hg];exact hq
  | cell a t =>
   rw[resT]at hw;split at hw
   ·rename_i b j hb;split at hw
    ·rename_i v hv;obtain⟨vs,h0,h1,h2⟩:=ih (kk:=fun l=>kk (v::l)) hw;refine⟨v::vs,by simp[h0],h1,fun Qf hq=>?_⟩;have hs:=slotA_some hb;have hg:=s.slot a _ hs.1 hs.2 (by simp);rw[List.mapM_cons,lwp_bind,oneResult,lwp_bind,Array.getD_eq_getD_getElem?,hg];simp only[conc,Option.getD_some,asAddr,lwp_pure];refine lwp_privLoad s dj hv ?_;rw[lwp_bind];refine h2 _ ?_;rw[lwp_pure];exact hq
    ·exact hw.elim
   ·rename_i b hb;have hs:=slotA_some hb;have hg:=s.slot a _ hs.1 hs.2 (by simp);split at hw
    ·rename_i ks hagg hks;split at hw
     ·rename_i hlen;obtain⟨l,h1,h2,hw⟩:=loadL_wp hw;obtain⟨vs,h0,h3,h4⟩:=ih (kk:=fun l'=>kk (.agg l.toArray::l')) hw;refine⟨.agg l.toArray::vs,by simp[h0],h3,fun Qf hq=>?_⟩;rw[List.mapM_cons,lwp_bind,oneResult,lwp_bind,Array.getD_eq_getD_getElem?,hg];simp only[conc,Option.getD_some,asAddr,lwp_pure];refine lwp_loadVar_agg hagg (by rw[h1,<- lenL_eq];exact nbeq_true hlen) (fun t v hv=>?_) ?_
      ·have:=h2 t v hv;rw[Nat.zero_add]at this;exact Cells.cell?_le (Cells.le_add _ _) this
      ·rw[lwp_bind];refine h4 _ ?_;rw[lwp_pure];exact hq
     ·exact hw.elim
    ·rename_i kd hagg hks;obtain⟨v,h1,hw⟩:=loadK_wp hw;obtain⟨vs,h0,h3,h4⟩:=ih (kk:=fun l'=>kk (v::l')) hw;obtain⟨dd,hu⟩:=kindsF_some hks;refine⟨v::vs,by simp[h0],h3,fun Qf hq=>?_⟩;rw[List.mapM_cons,lwp_bind,oneResult,lwp_bind,Array.getD_eq_getD_getElem?,hg];simp only[conc,Option.getD_some,asAddr,lwp_pure];refine lwp_loadVar_one hu hagg (Cells.cell?_le (Cells.le_add _ _) h1) ?_;rw[lwp_bind];refine h4 _ ?_;rw[lwp_pure];exact hq
    ·exact hw.elim
   ·exact hw.elim
theorem argsEnv_get:∀ {args:List Value} {j i:Nat} {a:AV},(argsEnv j args).get i=some a->∃ v,a=.val v/\j<=i/\i<j+args.length/\args[i-j]?=some v:=by
 intro args
 induction args with
 | nil=>intro j i a h;cases h
 | cons x args ih =>
  intro j i a h;rw[argsEnv,Env.get_cons]at h;by_cases hj:j=i
  ·rw[if_pos hj]at h;cases h;subst hj;exact⟨x,rfl,Nat.le_refl _,by simp,by simp⟩
  ·rw[if_neg hj]at h;obtain⟨v,h1,h2,h3,h4⟩:=ih h;refine⟨v,h1,by omega,by simp;omega,?_⟩;rw[show i-j=(i-(j+1))+1 by omega];simpa using h4
theorem allBelow_spec{n:Nat}:∀ {l:List Nat},allBelow n l=true->∀ d∈l,d<n:=by
 intro l
 induction l with
 | nil=>intro _ d h;simp at h
 | cons a l ih =>
  intro h d hd;rw[allBelow]at h;simp only[Bool.and_eq_true,Bool.not_eq_true']at h;rcases List.mem_cons.1 hd with rfl|hd
  ·have:=h.1;rcases Nat.lt_or_ge d n with h'|h'
   ·exact h'
   ·rw[Nat.ble_eq_true_of_le h']at this;cases this
  ·exact ih h.2 d hd
def retQ(Q:Value->LH->Prop)(l:Leaf)(h:LH):Prop:=match l with | .ret v=>Q v h|_=>False
theorem take_marks{main:Bool}{R:Goroutine->LH->Prop}{cs:List Frame}(hR:LClosed C.P main R){fn:FI}{tmps:Array Value}{todo:List Item}{h:LH}:∀ (mk:List Nat) (hp:Cells),mk.Nodup->Disj h.get hp->(∀ r∈mk,hp r=some (true,.deferred (some []))) ->
  (∀ hp',Disj h.get hp'->(∀ b,b∉mk->hp' b=hp b)->R (G { mkF fn [] none tmps todo with mode:=.returning } cs) (h.add hp'))->R (G { mkF fn (mk.map markOf) none tmps todo with mode:=.returning } cs) (h.add hp):=by
 intro mk
 induction mk with
 | nil=>intro hp _ d _ hk;exact hk hp d fun _ _=>rfl
 | cons r mk ih =>
  intro hp hn d hm hk;have hr:=hm r (by simp);have hhr:h.get r=none:=by
   rcases d r with h'|h'
   ·exact h'
   ·rw[hr]at h';cases h'
  refine mv_takeDeferred hR (r:=r) (by show h.get.add hp r=_;rw[Cells.add_right hhr];exact hr) ?_;have e:(h.get.add hp).upd r (true,.deferred none)=h.get.add (hp.upd r (true,.deferred none)):=by
   funext b;unfold Cells.upd Cells.add;by_cases e:b=r
   ·subst e;simp[hhr]
   ·simp[e]
  show R _ { h.add hp with get:=(h.get.add hp).upd r (true,.deferred none) };rw[e];have hn':=List.nodup_cons.1 hn;refine ih (hp.upd r (true,.deferred none)) hn'.2 ?_ (fun q hq=>?_) fun hp' d' hk'=>hk hp' d' fun b hb=>?_
  ·intro b;by_cases e:b=r
   ·subst e;exact .inl hhr
   ·rw[Cells.upd_ne _ _ e];exact d b
  ·have hne:q≠r:=by rintro rfl;exact hn'.1 hq
   rw[Cells.upd_ne _ _ hne];exact hm q (by simp[hq])
  ·rw[hk' b (fun h=>hb (by simp[h])),Cells.upd_ne _ _ (fun e=>hb (by simp[e]))]
theorem fwk_of_tree(hX : XOK X)(hkd : C.kd ≠ .early){f : FuncId}{fd : Func}{args : List Value}{h : LH}{Q : Value -> LH -> Prop}(hf : C.P.funcs[f]? = some fd)(hn : (fd.name == "runtime.NumGoroutine") = false)
 (hT:(ftree C fd args).wp X C.P (retQ Q) h):FWK X C.P C.kd f args.toArray h Q:=by
 unfold ftree at hT;split at hT
 ·rename_i c hb hchk;rw[hb]at hchk;simp only[Bool.and_eq_true]at hchk;have hlen:=Nat.le_of_ble_eq_true hchk.1;have hnt:=Nat.le_of_ble_eq_true hchk.2.1;have hds:=allBelow_spec hchk.2.2;rw[lenL_eq]at hlen;refine⟨⟨fd,hf,by rw[hb];rfl,hn⟩,?_⟩;intro main R hR cs hst hk;have hen:Frame.enter C.P f args.toArray C.kd=mkF ⟨f,C.kd,hkd⟩ [] none (args.toArray++Array.replicate (fd.ntmps-args.length) undef) [.code c]:=by
   simp[Frame.enter,hf,hb,mkF]
  rw[hen];have hadd:h=h.add (fun _=>none):=by
   have e0:h.get.add (fun _=>none)=h.get:=by funext r;unfold Cells.add;cases h.get r<;>rfl
   unfold LH.add;rw[e0]
  rw[hadd];refine spine_sound hX hR hst c _ (fun _=>False) [] _ _ _ _ id _ _ _ ?_ ?_ (fun _=>.inr rfl) (fun _ h=>h.elim) ?_ hT ?_
  ·intro hfin;unfold finOf at hfin;split at hfin
   ·rename_i h1 h2;exact⟨rfl,rfl,rfl,h1,fd,hf,Array.toList_inj.1 (by rw[h2])⟩
   ·cases hfin
  ·refine⟨?_,?_,?_,?_,?_,?_⟩
   ·intro i a hi hg hb';obtain⟨v,rfl,_,h3,h4⟩:=argsEnv_get hg;rw[Array.getElem?_append_left (by simpa using h3)];simpa[conc] using h4
   ·intro s v hs hg;obtain⟨_,_,_,h3,_⟩:=argsEnv_get hg;omega
   ·intro s v hs hg;obtain⟨_,_,_,h3,_⟩:=argsEnv_get hg;omega
   ·intro s s' a a' hs _ hg;obtain⟨_,_,_,h3,_⟩:=argsEnv_get hg;omega
   ·intro s v hs hg;obtain⟨_,_,_,h3,_⟩:=argsEnv_get hg;omega
   ·intro s v hs hg;obtain⟨_,_,_,h3,_⟩:=argsEnv_get hg;omega
  ·intro d hd;have:=hds d hd;simp;omega
  ·intro x e' t' σ' hp' h' PB' mk s' dj' hN h1 h2 h3 h4 h5 hT';have fin:(resT C e' fd.results.toList fun l=>match l with
     | [v]=>.leaf (.ret v)
     | l=>.leaf (.ret (.tuple l.toArray))).wp X C.P (retQ Q) h'->∀ todo,R (G { mkF ⟨f,C.kd,hkd⟩ (mk.map markOf++[]) none t' todo with mode:=.returning } cs) (h'.add hp'):=by
    intro hw todo;rw[List.append_nil];refine take_marks hR.1 mk hp' h4 dj' (fun r hr=>(h3 r hr).2) fun hp'' dj'' hsame=>?_;have s':Sim σ' [] PB' e' t' hp'':=by
     refine⟨s'.slot,fun t v ht hg=>?_,s'.only,s'.inj,s'.prot,s'.cover⟩;obtain⟨c,el,q1,q2⟩:=s'.cell t v ht hg;refine⟨c,el,?_,q2⟩;rw[hsame]
     ·exact q1
     ·intro hm;rw[(h3 _ hm).2]at q1;cases q1
    obtain⟨vs,h0,h1,h2⟩:=resT_wp s' dj'' hw;have hv:∃ v,Q v h'/\v=(if hh:vs.length=1 then vs[0] else .tuple vs.toArray):=by
     match vs,h1 with
     | [],h1=>exact⟨_,h1,rfl⟩
     | [v],h1=>exact⟨v,h1,rfl⟩
     | a::b::l,h1=>exact⟨_,h1,by simp⟩
    obtain⟨v,hq,hv⟩:=hv;refine hk _ v h' hp'' rfl dj'' ⟨rfl,rfl,rfl,fd,hf,?_⟩ hq;unfold results;rw[lwp_bind,Array.mapM_eq_mapM_toList,<- bind_pure_comp,lwp_bind];refine h2 _ ?_;rw[lwp_pure,lwp_pure];refine⟨?_,rfl⟩;rw[hv];simp
   cases x with
   | fall=>exact mv_end hR.1 (fin hT' _)
   | ret=>exact fun k'=>mv_ret hR.1 (fin hT' _)
   | exit j=>exact hT'.elim
 ·exact hT.elim
end
end
section
theorem cv_fw{X:XP}{P:Program}(hX:XOK X){f:FuncId}{first args cap hargs:Array Value}{h:LH}{Q:Value->LH->Prop}(ha:(first++args)++cap=hargs)(c:FW X P f hargs h Q):CV X P (.func (.func f) first cap) args h Q:=by
 intro main R hR fr cs hk;obtain⟨⟨fn,hf,hb,hname⟩,hrun⟩:=c;have hbn:fn.body.isNone=false:=by cases h:fn.body<;>simp_all
 subst ha;show Sem.lwp P (callFunc f ((first++args)++cap)) _ _ _;unfold callFunc;show Sem.lwp P (program.bind _) _ _ _;refine Sem.lwp_bind _ _ ?_;show Sem.lwp P (match P.funcs[f]? with|none=>_|some fn=>_) _ _ _;rw[hf];simp only[hname,hbn,Bool.false_eq_true,if_false];exact hrun main R hR (fr::cs) (hX.stk _ _) fun fr' v h' k _ d hr hq=>ret_step hR.1 hr (hk v h' k d hq)
end
section
variable {X:XP} {P:Program} {Q:Leaf->LH->Prop} {h:LH}
theorem gT{p:Prop}{k:T}(hp:p)(hk:k.wp X P Q h):(T.need p k).wp X P Q h:=⟨hp,hk⟩
theorem gS2{p:Option Addr}{k:Addr->T}{a:Addr}(hp:p=some a)(hk:(k a).wp X P Q h):(T.someA p k).wp X P Q h:=⟨a,hp,hk⟩
theorem gL0{ik:IntKind}{a:Addr}{n:Int}{k:Int->T}(hc:h.get.cell? a=some (.int ik n))(hk:(k n).wp X P Q h):(T.loadI ik a k).wp X P Q h:=⟨n,hc,hk⟩
theorem gL2{a:Addr}{n:Bool}{k:Bool->T}(hc:h.get.cell? a=some (.bool n))(hk:(k n).wp X P Q h):(T.loadB a k).wp X P Q h:=⟨n,hc,hk⟩
theorem gL1{a:Addr}{p:Option Addr}{n c:Nat}{k:Option Addr->Nat->Nat->T}(hc:h.get.cell? a=some (.slice p n c))(hk:(k p n c).wp X P Q h):(T.loadS a k).wp X P Q h:=⟨p,n,c,hc,hk⟩
theorem gL3{a:Addr}{n:Option Addr}{k:Option Addr->T}(hc:h.get.cell? a=some (.pointer n))(hk:(k n).wp X P Q h):(T.loadP a k).wp X P Q h:=⟨n,hc,hk⟩
theorem gL4{a:Addr}{n:Option Nat}{k:Option Nat->T}(hc:h.get.cell? a=some (.map n))(hk:(k n).wp X P Q h):(T.loadM a k).wp X P Q h:=⟨n,hc,hk⟩
theorem t_loadC{a:Addr}{n:Option Nat}{k:Option Nat->T}(hc:h.get.cell? a=some (.chan n))(hk:(k n).wp X P Q h):(T.loadC a k).wp X P Q h:=⟨n,hc,hk⟩
theorem t_loadStr{a:Addr}{n:ByteArray}{k:ByteArray->T}(hc:h.get.cell? a=some (.string n))(hk:(k n).wp X P Q h):(T.loadStr a k).wp X P Q h:=⟨n,hc,hk⟩
theorem t_loadV{a:Addr}{n:Value}{k:Value->T}(hc:h.get.cell? a=some n)(hk:(k n).wp X P Q h):(T.loadV a k).wp X P Q h:=⟨n,hc,hk⟩
theorem t_store{a:Addr}{v v₀:Value}{k:T}(h1:isOne v=true)(h2:h.get.own a.block)(h3:h.get.cell? a=some v₀)(h4:h.get.frozen? a=false)(hk:k.wp X P Q { h with get:=h.get.setCell a v }):(T.store a v k).wp X P Q h:=⟨h1,h2,⟨v₀,h3⟩,h4,hk⟩
theorem t_new{e:TypeId}{cs:Array Value}{k:Nat->T}(hk:∀ r,h.get r=none->(k r).wp X P Q { h with get:=h.get.upd r (true,.cells cs e) }):(T.new e cs k).wp X P Q h:=hk
theorem t_cond{b:Bool}{s t:T}(h1:b=true->s.wp X P Q h)(h2:b=false->t.wp X P Q h):(bif b then s else t).wp X P Q h:=by
 cases b
 ·exact h2 rfl
 ·exact h1 rfl
theorem t_if{p:Prop}[Decidable p]{s t:T}(h1:p->s.wp X P Q h)(h2:¬ p->t.wp X P Q h):(bif decide p then s else t).wp X P Q h :=
 t_cond (fun e=>h1 (of_decide_eq_true e)) (fun e=>h2 (of_decide_eq_false e))
theorem t_both{s t:T}(h1:s.wp X P Q h)(h2:t.wp X P Q h):(T.both s t).wp X P Q h:=⟨h1,h2⟩
theorem t_call{f:FuncId}{args:Array Value}{k:Value->T}{A:Value->LH->Prop}(c:FW X P f args h A)(hk:∀ v h',A v h'->(k v).wp X P Q h'):(T.call false f args k).wp X P Q h :=
 FW.mono c fun v h' ha=>⟨fun e=>(by cases e),hk v h' ha⟩
theorem t_callv{f:Value}{args:Array Value}{k:Value->T}{A:Value->LH->Prop}(c:CV X P f args h A)(hk:∀ v h',A v h'->(k v).wp X P Q h'):(T.callv false f args k).wp X P Q h :=
 CV.mono c fun v h' ha=>⟨fun e=>(by cases e),hk v h' ha⟩
theorem t_sem{s:Sem Value}{k:Value->T}{A:Value->Cells->Prop}(c:Sem.lwp P s A (fun _ _=>False) h.get)(hk:∀ v h',A v h'->(k v).wp X P Q { h with get:=h' }):(T.sem false s k).wp X P Q h :=
 Sem.lwp_mono _ c (fun v h' ha=>⟨fun e=>(by cases e),hk v h' ha⟩) fun _ _ h=>h
theorem t_loop{init:List Value}{body:List Value->T}{kb kr:List Value->T}{ko:Nat->List Value->T}(I:Nat->List Value->LH->Prop){n:Nat}(h0:I n init h)
 (hb:∀ (Y:List Value->LH->Prop) n vs h,(∀ m vs' h',m<n->I m vs' h'->Y vs' h')->I n vs h->(body vs).wp X P (fun l h'=>l.go h' Y (fun vs h'=>(kb vs).wp X P Q h') (fun vs h'=>(kr vs).wp X P Q h') (fun j vs h'=>(ko j vs).wp X P Q h')) h):(T.loop init body kb kr ko).wp X P Q h:=by
 intro Y hY;have key:∀ n vs h,I n vs h->Y vs h:=by
  intro n
  induction n using Nat.strongRecOn with
  | ind n ih=>intro vs h hI;exact hY vs h (hb Y n vs h (fun m vs' h' hm hI'=>ih m hm vs' h' hI') hI)
 exact key n init h h0
theorem t_loopB{init:List Value}{body:List Value->T}{kb kr:List Value->T}{ko:Nat->List Value->T}(I:Nat->List Value->LH->Prop)(B:List Value->LH->Prop){n:Nat}(h0:I n init h)
 (hb:∀ (Y:List Value->LH->Prop) n vs h,(∀ m vs' h',m<n->I m vs' h'->Y vs' h')->I n vs h->(body vs).wp X P (fun l h'=>l.go h' Y B (fun vs h'=>(kr vs).wp X P Q h') (fun j vs h'=>(ko j vs).wp X P Q h')) h)
 (hk:∀ vs h',B vs h'->(kb vs).wp X P Q h'):(T.loop init body kb kr ko).wp X P Q h :=
 t_loop I h0 fun Y n vs h hY hI=>T.wp_mono _ (hb Y n vs h hY hI) (by
  intro l h' hg;cases l with
  | ret v=>exact hg
  | again vs=>exact hg
  | brk vs=>exact hk vs h' hg
  | retn vs=>exact hg
  | out j vs=>exact hg)
theorem t_blk{body:T}{kf kr:List Value->T}{ko:Nat->List Value->T}(I:List Value->LH->Prop)
 (hb:body.wp X P (fun l h'=>l.go h' I (fun _ _=>False) (fun vs h'=>(kr vs).wp X P Q h') (fun j vs h'=>(ko j vs).wp X P Q h')) h)(hk:∀ vs h',I vs h'->(kf vs).wp X P Q h'):(T.blk body kf kr ko).wp X P Q h:=by
 refine T.wp_mono body hb ?_;intro l h' hg;cases l with
 | ret v=>exact hg
 | again vs=>exact hk vs h' hg
 | brk vs=>exact hg
 | retn vs=>exact hg
 | out j vs=>exact hg
theorem T.unI_int(ik:IntKind)(n:Int)(k:Int->T):T.unI ik (.int ik n) k=k n:=by simp[T.unI]
theorem T.popI_int(ik:IntKind)(n:Int)(l:List Value)(k:Int->List Value->T):T.popI ik (.int ik n::l) k=k n l:=by simp[T.popI]
/-! ### Values taken apart; leaves -/
theorem gD{ik:IntKind}{n:Int}{k:Int->T}(hk:(k n).wp X P Q h):(T.unI ik (.int ik n) k).wp X P Q h:=by rw[T.unI_int];exact hk
theorem gC{n:Bool}{k:Bool->T}(hk:(k n).wp X P Q h):(T.unB (.bool n) k).wp X P Q h:=hk
theorem gG{p:Option Addr}{n c:Nat}{k:Option Addr->Nat->Nat->T}(hk:(k p n c).wp X P Q h):(T.unS (.slice p n c) k).wp X P Q h:=hk
theorem gQ{p:Option Addr}{k:Option Addr->T}(hk:(k p).wp X P Q h):(T.unP (.pointer p) k).wp X P Q h:=hk
theorem gP{p:Option Nat}{k:Option Nat->T}(hk:(k p).wp X P Q h):(T.unM (.map p) k).wp X P Q h:=hk
theorem t_unC{p:Option Nat}{k:Option Nat->T}(hk:(k p).wp X P Q h):(T.unC (.chan p) k).wp X P Q h:=hk
theorem gL{v:Value}{l:List Value}{k:Value->List Value->T}(hk:(k v l).wp X P Q h):(T.unCons (v::l) k).wp X P Q h:=hk
theorem gB{k:T}(hk:k.wp X P Q h):(T.unNil [] k).wp X P Q h:=hk
theorem gJ{l:List Value}{k:List Value->T}(hk:(k l).wp X P Q h):(T.unAgg (.agg l.toArray) k).wp X P Q h:=hk
theorem gK{l:List Value}{k:List Value->T}(hk:(k l).wp X P Q h):(T.unTup (.tuple l.toArray) k).wp X P Q h:=hk
theorem gA{ik:IntKind}{n:Int}{l:List Value}{k:Int->List Value->T}(hk:(k n l).wp X P Q h):(T.popI ik (.int ik n::l) k).wp X P Q h:=by rw[T.popI_int];exact hk
theorem gE{n:Bool}{l:List Value}{k:Bool->List Value->T}(hk:(k n l).wp X P Q h):(T.popB (.bool n::l) k).wp X P Q h:=hk
theorem gF{p:Option Addr}{n c:Nat}{l:List Value}{k:Option Addr->Nat->Nat->List Value->T}(hk:(k p n c l).wp X P Q h):(T.popS (.slice p n c::l) k).wp X P Q h:=hk
theorem gP2{a:Addr}{l:List Value}{k:Addr->List Value->T}(hk:(k a l).wp X P Q h):(T.popA (.pointer (some a)::l) k).wp X P Q h:=hk
theorem t_ret{A:Value->LH->Prop}{v:Value}(ha:A v h):(T.leaf (.ret v)).wp X P (retQ A) h:=ha
section
variable {Y B R:List Value->LH->Prop} {O:Nat->List Value->LH->Prop}
theorem t_again{vs:List Value}(ha:Y vs h):(T.leaf (.again vs)).wp X P (fun l h'=>l.go h' Y B R O) h:=ha
theorem gH{vs:List Value}(ha:B vs h):(T.leaf (.brk vs)).wp X P (fun l h'=>l.go h' Y B R O) h:=ha
theorem gI{vs:List Value}(ha:R vs h):(T.leaf (.retn vs)).wp X P (fun l h'=>l.go h' Y B R O) h:=ha
theorem gR{j:Nat}{vs:List Value}(ha:O j vs h):(T.leaf (.out j vs)).wp X P (fun l h'=>l.go h' Y B R O) h:=ha
theorem t_againE{h₀:LH}{vs:List Value}(hl:h₀.le h)(ha:Y vs h):(T.leaf (.again vs)).wp X P (fun l h'=>h₀.le h'/\l.go h' Y B R O) h:=⟨hl,ha⟩
theorem t_retnE{h₀:LH}{vs:List Value}(hl:h₀.le h)(ha:R vs h):(T.leaf (.retn vs)).wp X P (fun l h'=>h₀.le h'/\l.go h' Y B R O) h:=⟨hl,ha⟩
end
/-! ### Contracts of functions that leave the memory as it is -/
def Pu(P:Program)(f:FuncId)(args:Array Value)(h:LH)(v:Value):Prop:=FW X0 P f args h fun r h'=>r=v/\h'=h
theorem t_pu{f:FuncId}{args:Array Value}{k:Value->T}{v:Value}(c:Pu P f args h v)(hk:(k v).wp X P Q h):(T.call false f args k).wp X P Q h :=
 t_call (FW.top c) (by rintro _ _ ⟨rfl,rfl⟩;exact hk)
def Gr(P:Program)(f:FuncId)(args:Array Value)(h:LH)(V:Value->LH->Prop):Prop:=FW X0 P f args h fun r h'=>h.le h'/\V r h'
theorem t_gr{f:FuncId}{args:Array Value}{k:Value->T}{V:Value->LH->Prop}(c:Gr P f args h V)(hk:∀ v h',h.le h'->V v h'->(k v).wp X P Q h'):(T.call false f args k).wp X P Q h :=
 t_call (FW.top c) fun v h' ha=>hk v h' ha.1 ha.2
theorem fwk_neat{priv : List Nat}{loops joins : List LoopNote}{kd : CallKind}{f : FuncId}{fd : Func}{args : List Value}{t : T}{A : Value -> LH -> Prop}(ht : ftree { P := P, priv := priv, loops := loops, joins := joins, kd := kd } fd args = t)(hkd : kd ≠ .early)(hf : P.funcs[f]? = some fd)(hn : (fd.name == "runtime.NumGoroutine") = false)(hX : XOK X)
 (hw:t.wp X P (retQ A) h):FWK X P kd f args.toArray h A:=fwk_of_tree (C:={ P:=P,priv:=priv,loops:=loops,joins:=joins,kd:=kd }) hX hkd hf hn (by rw[ht];exact hw)
abbrev T.np(a b:Nat)(k:T):T:=.need (AV.pp a b=AV.pp a b) k
abbrev T.ne(a b:Value)(k:T):T:=.need (AV.val a=AV.val b) k
abbrev FX(X:XP)(f:FuncId)(a:Array Value)(h:LH)(A:Value->LH->Prop)(t:T):Prop:=XOK X->t.wp X Go.Proofs.Tryz.prog (retQ A) h->FWK X Go.Proofs.Tryz.prog .normal f a h A
theorem fk(priv : List Nat)(loops joins : List LoopNote){f : FuncId}(fd : Func){args : List Value}{t : T}{A : Value -> LH -> Prop}{h : LH}(ht : ftree { P := Go.Proofs.Tryz.prog, priv := priv, loops := loops, joins := joins, kd := .normal } fd args = t := by kernel_rfl)(hf : Go.Proofs.Tryz.prog.funcs[f]? = some fd := by kernel_rfl)(hn : (fd.name == "runtime.NumGoroutine") = false := by kernel_rfl) : FX X f args.toArray h A t := fun hX hw => fwk_neat ht (by simp) hf hn hX hw
def T.nds(l:List AV)(k:T):T:=l.foldr (fun a k=>.need (a=a) k) k
theorem gY{X:XP}{P:Program}{Q:Leaf->LH->Prop}{h:LH}{l:List AV}{k:T}(hk:k.wp X P Q h):(T.nds l k).wp X P Q h:=by
  induction l with
  | nil=>exact hk
  | cons a l ih=>exact⟨rfl,ih⟩
abbrev AV.U:AV:=.val (.tuple #[])
abbrev AV.O(a:Addr):AV:=.val (.pointer (some a))
abbrev AV.S(p:Option Addr)(n c:Nat):AV:=.val (.slice p n c)
abbrev AV.B(b:Bool):AV:=.val (.bool b)
instance (priority:=low):Coe Value AV:=⟨.val⟩
instance (priority:=low):Coe Int AV:=⟨fun n=>.val (.int .i64 n)⟩
instance (priority:=low):Coe Bool AV:=⟨fun b=>.val (.bool b)⟩
instance (priority:=low):Coe Int Value:=⟨.int .i64⟩
instance (priority:=low):Coe Bool Value:=⟨.bool⟩
instance (priority:=low):Coe Nat Value:=⟨fun n=>.int .i64 (n:Int)⟩
abbrev T.li:=T.loadI .i64
abbrev T.pi:=T.popI .i64
abbrev T.ui:=T.unI .i64
abbrev T.nU(k:T):T:=.ne (.tuple #[]) (.tuple #[]) k
abbrev T.nO(a:Addr)(k:T):T:=.ne (.pointer (some a)) (.pointer (some a)) k
abbrev T.nS(p:Option Addr)(n c:Nat)(k:T):T:=.ne (.slice p n c) (.slice p n c) k
abbrev T.nb(b:Bool)(k:T):T:=.ne (.bool b) (.bool b) k
abbrev T.nf(b c:Bool)(k:T):T:=.ne (.bool b) (.bool c) k
abbrev T.nq(a b:Addr)(k:T):T:=.ne (.pointer (some a)) (.pointer (some b)) k
abbrev T.cl(f:FuncId)(a:Array Value)(k:Value->T):T:=.call false f a k
abbrev T.cT(f:FuncId)(a:Array Value)(k:Value->List Value->T):T:=.call false f a fun v=>.unTup v fun l=>.unCons l k
abbrev T.cI(f:FuncId)(a:Array Value)(k:Int->T):T:=.call false f a fun v=>.unI .i64 v k
abbrev T.cB(f:FuncId)(a:Array Value)(k:Bool->T):T:=.call false f a fun v=>.unB v k
abbrev T.rt(v:Value):T:=.leaf (.ret v)
abbrev T.ag(l:List Value):T:=.leaf (.again l)
abbrev T.bk(l:List Value):T:=.leaf (.brk l)
abbrev T.rn(l:List Value):T:=.leaf (.retn l)
abbrev T.nd(v:Value)(k:T):T:=.ne v v k
/-! ### Numbers -/
theorem wrap_id{n:Int}(h1 : -9223372036854775808<=n)(h2:n<=9223372036854775807):IntKind.i64.wrap n=n:=by
 have e1:(2^IntKind.i64.bits:Int)=18446744073709551616:=rfl;have e2:(2^(IntKind.i64.bits-1):Int)=9223372036854775808:=rfl;simp only[IntKind.wrap,e1,e2,show IntKind.i64.signed=true from rfl,Bool.true_and,decide_eq_true_eq];split<;>omega
structure Hold(q:Prop):Prop where
 out:q
theorem gZ{p q:Prop}(k:q)(e:Hold q->p:=by intro k;(repeat (first|(with_reducible first|apply gA|apply gB|apply gC|apply gD|apply gE|apply gF|apply gG|apply gH|apply gI|apply gJ|apply gK|apply gL|apply gM|apply gN|apply gO|apply gP|apply gQ|apply gR|apply gP2|apply gP3|apply gY)|((with_reducible first|apply gT|apply gS2);first|exact rfl|assumption|omega|exact⟨⟩)|((with_reducible first|apply gL0|apply gL1|apply gL2|apply gL3|apply gL4);assumption)));exact k.out):p:=e ⟨k⟩
theorem yF {g:Prop}{s t:T}{X:XP}{P:Program}{Q:Leaf->LH->Prop}{h:LH}(k:t.wp X P Q h)(e:Hold ((bif false then s else t).wp X P Q h)->g:=by intro k;exact gZ k.out):g:=e ⟨k⟩
theorem yT {g:Prop}{s t:T}{X:XP}{P:Program}{Q:Leaf->LH->Prop}{h:LH}(k:s.wp X P Q h)(e:Hold ((bif true then s else t).wp X P Q h)->g:=by intro k;exact gZ k.out):g:=e ⟨k⟩
theorem yI {g:Prop}{b:Bool}{s t:T}{X:XP}{P:Program}{Q:Leaf->LH->Prop}{h:LH}(c:b=true->s.wp X P Q h)(d:b=false->t.wp X P Q h)(e:Hold ((bif b then s else t).wp X P Q h)->g:=by intro k;exact gZ k.out):g:=e ⟨t_cond c d⟩
theorem yJ {g p:Prop}[Decidable p]{s t:T}{X:XP}{P:Program}{Q:Leaf->LH->Prop}{h:LH}(c:p->s.wp X P Q h)(d:¬p->t.wp X P Q h)(e:Hold ((bif decide p then s else t).wp X P Q h)->g:=by intro k;exact gZ k.out):g:=e ⟨t_if c d⟩
end
section
def Sl{α:Type}(E:Cells->Addr->α->Prop)(k:Nat)(h:Cells)(p:Option Addr)(n:Nat)(l:List α):Prop :=
 n=l.length/\l.length<4611686018427387904/\∀ i x,l[i]?=some x->∃ a,p=some a/\E h (a.add (i*k)) x
def Rd(h h':Cells):Prop:=∀ a v,h.cell? a=some v->h'.cell? a=some v
theorem Rd.of_le{h h':Cells}(hl:h.le h'):Rd h h':=fun _ _ hc=>Cells.cell?_le hl hc
theorem Rd.refl(h:Cells):Rd h h:=fun _ _ hc=>hc
theorem Rd.trans{a b c:Cells}(h1:Rd a b)(h2:Rd b c):Rd a c:=fun x v hc=>h2 x v (h1 x v hc)
def Grow{α:Type}(E:Cells->Addr->α->Prop):Prop:=∀ (h h':Cells) (a:Addr) (x:α),Rd h h'->E h a x->E h' a x
theorem Sl.rd{α:Type}{E:Cells->Addr->α->Prop}(hE:Grow E){k:Nat}{h h':Cells}{p:Option Addr}{n:Nat}{l:List α}(hl:Rd h h')(s:Sl E k h p n l):Sl E k h' p n l :=
 ⟨s.1,s.2.1,fun i x hx=>by obtain⟨a,ha,he⟩:=s.2.2 i x hx;exact⟨a,ha,hE _ _ _ _ hl he⟩⟩
theorem Sl.le{α:Type}{E:Cells->Addr->α->Prop}(hE:Grow E){k:Nat}{h h':Cells}{p:Option Addr}{n:Nat}{l:List α}(hl:h.le h')(s:Sl E k h p n l):Sl E k h' p n l:=s.rd hE (Rd.of_le hl)
theorem Sl.nil{α:Type}{E:Cells->Addr->α->Prop}{k:Nat}{h:Cells}{p:Option Addr}:Sl E k h p 0 []:=⟨rfl,by show 0<_;omega,fun i x hx=>by simp at hx⟩
theorem Sl.at{α:Type}{E:Cells->Addr->α->Prop}{k:Nat}{h:Cells}{p:Option Addr}{n:Nat}{l:List α}(s:Sl E k h p n l){i:Nat}(hi:i<n):∃ x a,l[i]?=some x/\p=some a/\E h (a.add (i*k)) x:=by
 have hl:i<l.length:=s.1▸hi;obtain⟨a,ha,he⟩:=s.2.2 i l[i] (List.getElem?_eq_getElem hl);exact⟨l[i],a,List.getElem?_eq_getElem hl,ha,he⟩
def IntE(h:Cells)(a:Addr)(n:Int):Prop:=h.cell? (a.add 0)=some (.int .i64 n)
theorem IntE.grow:Grow IntE:=fun _ _ _ _ hl h=>hl _ _ h
def IsI(n:Int):Prop:=-9223372036854775808<=n/\n<=9223372036854775807
theorem drop_of{α:Type}{l:List α}{i:Nat}{x:α}(hx:l[i]?=some x):l.drop i=x::l.drop (i+1):=by
 obtain⟨hi,e⟩:=List.getElem?_eq_some_iff.1 hx;rw[List.drop_eq_getElem_cons hi,e]
end
section
abbrev HB(t:Trace):Nat->Nat->Prop:=HappensBefore t
theorem HB.append{t u:Trace}{i j:Nat}(h:HB t i j):HB (t++u) i j:=hb_app u h
theorem HB.po{t:Trace}{i j:Nat}{x y:MemOp}(h:i<j)(hx:t[i]?=some x)(hy:t[j]?=some y)(e:x.g=y.g):HB t i j:=hb_po h hx hy e
def Knows(t:Trace)(p g:Nat):Prop:=∃ q x,t[q]?=some x/\x.g=g/\(p=q\/HB t p q)
theorem Knows.append{t u:Trace}{p g:Nat}(h:Knows t p g):Knows (t++u) p g:=by
 obtain⟨q,x,h1,h2,h3⟩:=h;refine⟨q,x,?_,h2,h3.imp_right HB.append⟩;rw[getElem?_append_old (lt_size_of_getElem? h1)];exact h1
theorem Knows.self{t:Trace}{p:Nat}{x:MemOp}(h:t[p]?=some x):Knows t p x.g:=⟨p,x,h,rfl,.inl rfl⟩
theorem Knows.new{t u:Trace}{p j:Nat}{y:MemOp}(h:Knows t p y.g)(hj:(t++u)[j]?=some y)(hs:t.size<=j):HB (t++u) p j:=by
 obtain⟨q,x,h1,h2,h3⟩:=h;have hq:q<j:=Nat.lt_of_lt_of_le (lt_size_of_getElem? h1) hs;have h1':(t++u)[q]?=some x:=by rw[getElem?_append_old (lt_size_of_getElem? h1)];exact h1
 have e:HB (t++u) q j:=HB.po hq h1' hj h2;rcases h3 with rfl|h3
 ·exact e
 ·exact .trans h3.append e
abbrev Key:=Nat×Option Nat
def key? : Loc->Option Key
 | .cell a=>some (a.block,some a.off)
 | .obj r=>some (r,none)
 | _=>none
def Touches(t:Trace)(p:Nat)(k:Key)(wr:Bool):Prop:=∃ op x,t[p]?=some op/\op.act.touch?=some x/\key? x.loc=some k/\x.write=wr
def Plain(t:Trace)(p:Nat):Prop:=∃ op x,t[p]?=some op/\op.act.touch?=some x/\x.kind=.plain
theorem Touches.lt{t:Trace}{p:Nat}{k:Key}{b:Bool}(h:Touches t p k b):p<t.size:=by
 obtain⟨_,_,h,_⟩:=h;exact lt_size_of_getElem? h
theorem Touches.old{t u:Trace}{p:Nat}{k:Key}{b:Bool}(h:Touches (t++u) p k b)(hp:p<t.size):Touches t p k b:=by
 obtain⟨op,x,h,h'⟩:=h;rw[getElem?_append_old hp]at h;exact⟨op,x,h,h'⟩
theorem Plain.old{t u:Trace}{p:Nat}(h:Plain (t++u) p)(hp:p<t.size):Plain t p:=by
 obtain⟨op,x,h,h'⟩:=h;rw[getElem?_append_old hp]at h;exact⟨op,x,h,h'⟩
theorem counts_old{t u:Trace}{p:Nat}(hp:p<t.size):(t++u).counts p↔t.counts p:=by
 unfold Trace.counts;rw[heard_old hp,show (t++u).act? p=t.act? p by simp only[Trace.act?,getElem?_append_old hp]]
structure Sy where
 sp:Nat->Prop
 use:Nat->Nat->Prop
 dp:Nat->Nat
structure TI(y:Sy)(t:Trace)(n ng:Nat)(hold:Nat->Key->Option Bool)(gone:Nat->Prop):Prop where
 hears:∀ g,¬ gone g->Deaf t g=y.dp g
 who:∀ op∈t,op.g<ng
 spl:∀ r,y.sp r->r<n
 lt:∀ p k b,Touches t p k b->k.1<n
 held:∀ g k b,hold g k=some b->k.1<n/\¬ y.sp k.1
 excl:∀ g g' k,g≠g'->hold g k=some true->hold g' k=none
 own:∀ g k,hold g k=some true->∀ p b,Touches t p k b->Knows t p g
 shared:∀ g k b,hold g k=some b->∀ p,Touches t p k true->Knows t p g
 norace:∀ i j k b b',¬ y.sp k.1->i<j->Touches t i k b->Touches t j k b'->(b=true\/b'=true)->HB t i j
 spc:∀ i j k b b',y.sp k.1->i<j->Touches t i k b->Touches t j k b'->(b=true\/b'=true)->(Plain t i\/Plain t j)->HB t i j
 said:∀ (p:Nat) op x,t[p]?=some op->op.act.touch?=some x->x.kind=.said->op.g=0
 acc:∀ g r,y.use g r->y.sp r/\∀ p k b,k.1=r->Touches t p k b->Plain t p->Knows t p g
 handed:∀ g,gone g->∀ p op,t[p]?=some op->op.g=g->t.counts p->Knows t p 0
 norel:∀ op∈t,∀ a,op.act≠.mark (.release a)
theorem key_of_memory{l:Loc}(h:l.isMemory=true):∃ k,key? l=some k:=by
 cases l<;>simp[Loc.isMemory]at h<;>exact⟨_,rfl⟩
theorem TI.noRace{y:Sy}{t:Trace}{n ng:Nat}{hold:Nat->Key->Option Bool}{gone:Nat->Prop}(h:TI y t n ng hold gone)(said:Bool):¬ Race said t:=by
 rintro⟨i,j,hij,⟨a,b,ha,hb,hc⟩,hn,_⟩;obtain⟨opi,hi,hti⟩:=touch_of ha;obtain⟨opj,hj,htj⟩:=touch_of hb;obtain⟨e,hm,hw,hk⟩:=hc;obtain⟨k,hkk⟩:=key_of_memory hm;by_cases hs:y.sp k.1
 ·rcases hk with hp|hp|⟨_,s1,s2⟩
  ·exact hn (h.spc i j k _ _ hs hij ⟨opi,a,hi,hti,hkk,rfl⟩ ⟨opj,b,hj,htj,e▸hkk,rfl⟩ hw (.inl ⟨opi,a,hi,hti,hp⟩))
  ·exact hn (h.spc i j k _ _ hs hij ⟨opi,a,hi,hti,hkk,rfl⟩ ⟨opj,b,hj,htj,e▸hkk,rfl⟩ hw (.inr ⟨opj,b,hj,htj,hp⟩))
  ·exact hn (HB.po hij hi hj ((h.said i opi a hi hti s1).trans (h.said j opj b hj htj s2).symm))
 ·exact hn (h.norace i j k _ _ hs hij ⟨opi,a,hi,hti,hkk,rfl⟩ ⟨opj,b,hj,htj,e▸hkk,rfl⟩ hw)
theorem TI.handedOver{y:Sy}{t:Trace}{n ng:Nat}{hold:Nat->Key->Option Bool}{gone:Nat->Prop}(h:TI y t n ng hold gone)(hg:∀ g,g≠0->g<ng->gone g):t.HandedOver:=by
 intro i g hi hg0 hc;obtain⟨op,hop,hgo⟩ : ∃ op,t[i]?=some op/\op.g=g:=by
  unfold Trace.g? at hi;exact Option.map_eq_some_iff.1 hi
 obtain⟨q,z,h1,h2,h3⟩:=h.handed g (hg g hg0 (by rw[<- hgo];exact h.who _ (mem_of_getElem? hop))) i op hop hgo hc;rcases h3 with rfl|h3
 ·rw[h1]at hop;cases hop;rw[h2]at hgo;exact absurd hgo.symm hg0
 ·exact⟨q,by simp[Trace.g?,h1,h2],h3⟩
theorem TI.mono{y:Sy}{t:Trace}{n n' ng ng':Nat}{hold hold':Nat->Key->Option Bool}{gone gone':Nat->Prop}(h:TI y t n ng hold gone)(hn:n<=n')(hng:ng<=ng')(hg:∀ g,gone' g↔gone g)
 (hh:∀ g k b,hold' g k=some b->∃ b',hold g k=some b'/\(b=true->b'=true))(hx:∀ g g' k,g≠g'->hold' g k=some true->hold' g' k=none):TI y t n' ng' hold' gone' where
 hears g hg':=h.hears g fun e=>hg' ((hg g).2 e)
 who op hop:=Nat.lt_of_lt_of_le (h.who op hop) hng
 spl r hr:=Nat.lt_of_lt_of_le (h.spl r hr) hn
 lt p k b ht:=Nat.lt_of_lt_of_le (h.lt p k b ht) hn
 held g k b hb:=by
  obtain⟨b',hb',_⟩:=hh g k b hb;exact⟨Nat.lt_of_lt_of_le (h.held g k b' hb').1 hn,(h.held g k b' hb').2⟩
 excl:=hx
 own g k hb:=by
  obtain⟨b',hb',e⟩:=hh g k true hb;cases e rfl;exact h.own g k hb'
 shared g k b hb:=by
  obtain⟨b',hb',_⟩:=hh g k b hb;exact h.shared g k b' hb'
 norace:=h.norace
 spc:=h.spc
 said:=h.said
 acc:=h.acc
 handed g hg':=h.handed g ((hg g).1 hg')
 norel:=h.norel
theorem ofEvents_mem{g:Nat}{fn:FuncId}{pos:String}{es:Array Event}{op:MemOp}(h:op∈MemOp.ofEvents g fn pos es):op.g=g/\∃ e∈es,op.act=.ofEvent e:=by
 unfold MemOp.ofEvents at h;split at h
 ·simp at h
 ·simp only[Array.mem_map]at h;obtain⟨e,he,rfl⟩:=h;exact⟨rfl,e,he,rfl⟩
theorem deafBehind_none{es:Array Event}{d:Nat}(h:∀ e∈es,e.loc≠.mark .disable/\e.loc≠.mark .enable):deafBehind d es=d:=by
 unfold deafBehind;rw[<- Array.foldl_toList];have h':∀ e∈es.toList,e.loc≠.mark .disable/\e.loc≠.mark .enable:=fun e he=>h e (Array.mem_toList_iff.1 he);revert h';generalize es.toList=l;intro h'
 induction l with
 | nil=>rfl
 | cons a l ih =>
  rw[List.foldl_cons];have:=h' a List.mem_cons_self;split
  ·rename_i e;exact absurd e this.1
  ·rename_i e;exact absurd e this.2
  ·exact ih fun e he=>h' e (List.mem_cons_of_mem _ he)
theorem TI.step{y:Sy}{t:Trace}{n n' ng:Nat}{hold:Nat->Key->Option Bool}{gone:Nat->Prop}(h:TI y t n ng hold gone){g:Nat}(hgn:g<ng)(hng:¬ gone g){fn:FuncId}{pos:String}{es:Array Event}(hn:n<=n')
 (hes:∀ e∈es,(∀ m,e.loc=.mark m->m=.noRoom)/\∀ k,key? e.loc=some k->k.1<n'/\(n<=k.1\/∃ b,hold g k=some b/\(e.write=true->b=true)))
 {hg':Key->Option Bool}(hh:∀ k b,hg' k=some b->hold g k=some b\/(n<=k.1/\k.1<n')) :
  TI y (t++MemOp.ofEvents g fn pos es) n' ng (fun i=>if i=g then hg' else hold i) gone:=by
 have hu:∀ op∈MemOp.ofEvents g fn pos es,op.g=g:=fun op hop=>(ofEvents_mem hop).1;have nosp:∀ r,n<=r->¬ y.sp r:=fun r hr hs=>absurd (h.spl r hs) (Nat.not_lt.2 hr);have evt:∀ op∈MemOp.ofEvents g fn pos es,∀ x,op.act.touch?=some x->x.kind≠.said/\∀ k,key? x.loc=some k->k.1<n'/\(n<=k.1\/∃ b',hold g k=some b'/\(x.write=true->b'=true)):=by
  intro op hop x hx;obtain⟨_,e,he,ha⟩:=ofEvents_mem hop;rw[ha]at hx;unfold MemAct.ofEvent at hx;split at hx
  ·cases hx
  ·rename_i m _ _;cases (hes _ he).1 m rfl;cases hx
  ·simp only[MemAct.touch?]at hx;cases hx;refine⟨by simp only;split<;>simp,fun k hk=>(hes e he).2 k hk⟩
 have hto:∀ p k b,Touches (t++MemOp.ofEvents g fn pos es) p k b->¬ p<t.size->(t++MemOp.ofEvents g fn pos es)[p]?.map (·.g)=some g/\k.1<n'/\¬ y.sp k.1/\(n<=k.1\/∃ b',hold g k=some b'/\(b=true->b'=true)):=by
  rintro p k b ⟨op,x,hp,hx,hk,hw⟩ hlt;rcases getElem?_append_cases hp with⟨hp',_⟩|⟨_,hop⟩
  ·exact absurd hp' hlt
  ·have:=(evt op hop x hx).2 k hk;refine⟨by rw[hp];simp[hu op hop],this.1,?_,this.2.imp_right ?_⟩
   ·rcases this.2 with h'|⟨b',h1,_⟩
    ·exact nosp _ h'
    ·exact(h.held g k b' h1).2
   ·rintro⟨b',h1,h2⟩;exact⟨b',h1,fun hb=>h2 (by rw[hw,hb])⟩
 have knowNew:∀ p,(t++MemOp.ofEvents g fn pos es)[p]?.map (·.g)=some g->Knows (t++MemOp.ofEvents g fn pos es) p g:=by
  intro p hp;cases hq:(t++MemOp.ofEvents g fn pos es)[p]? with
  | none=>rw[hq]at hp;cases hp
  | some op=>rw[hq]at hp;simp at hp;have:=Knows.self hq;rw[hp]at this;exact this
 refine⟨?_,?_,fun r hr=>Nat.lt_of_lt_of_le (h.spl r hr) hn,?_,?_,?_,?_,?_,?_,?_,?_,?_,?_,?_⟩
 ·intro i hi;by_cases ei:i=g
  ·rw[ei,Deaf_own,deafBehind_none,<- ei]
   ·exact h.hears i hi
   ·intro e he;refine⟨fun hl=>?_,fun hl=>?_⟩<;>(have:=(hes e he).1 _ hl;cases this)
  ·rw[Deaf_other t (fun e=>ei e.symm) _ hu];exact h.hears i hi
 ·intro op hop;rcases Array.mem_append.1 hop with hop|hop
  ·exact h.who op hop
  ·rw[hu op hop];exact hgn
 ·intro p k b ht;rcases Nat.lt_or_ge p t.size with hp|hp
  ·exact Nat.lt_of_lt_of_le (h.lt p k b (ht.old hp)) hn
  ·exact(hto p k b ht (Nat.not_lt.2 hp)).2.1
 ·intro i k b hb;split at hb
  ·rcases hh k b hb with hb|⟨h1,hb⟩
   ·exact⟨Nat.lt_of_lt_of_le (h.held g k b hb).1 hn,(h.held g k b hb).2⟩
   ·exact⟨hb,nosp _ h1⟩
  ·exact⟨Nat.lt_of_lt_of_le (h.held i k b hb).1 hn,(h.held i k b hb).2⟩
 ·intro i j k hij hb;by_cases ei:i=g
  ·rw[if_pos ei]at hb;have ej:j≠g:=fun e=>hij (ei.trans e.symm);rw[if_neg ej];rcases hh k true hb with hb|⟨hr,_⟩
   ·exact h.excl g j k (fun e=>ej e.symm) hb
   ·cases hj:hold j k with
    | none=>rfl
    | some b=>exact absurd (h.held j k b hj).1 (Nat.not_lt.2 hr)
  ·rw[if_neg ei]at hb;by_cases ej:j=g
   ·rw[if_pos ej];cases hj:hg' k with
    | none=>rfl
    | some b =>
     rcases hh k b hj with h'|⟨hr,_⟩
     ·rw[h.excl i g k ei hb]at h';cases h'
     ·exact absurd (h.held i k true hb).1 (Nat.not_lt.2 hr)
   ·rw[if_neg ej];exact h.excl i j k hij hb
 ·intro i k hb p b ht;rcases Nat.lt_or_ge p t.size with hp|hp
  ·by_cases ei:i=g
   ·rw[if_pos ei]at hb;rcases hh k true hb with hb|⟨hr,_⟩
    ·rw[ei];exact(h.own g k hb p b (ht.old hp)).append
    ·exact absurd (h.lt p k b (ht.old hp)) (Nat.not_lt.2 hr)
   ·rw[if_neg ei]at hb;exact(h.own i k hb p b (ht.old hp)).append
  ·have ⟨h1,_,_,h3⟩:=hto p k b ht (Nat.not_lt.2 hp);by_cases ei:i=g
   ·rw[ei];exact knowNew p h1
   ·rw[if_neg ei]at hb;rcases h3 with h3|⟨b',h3,_⟩
    ·exact absurd (h.held i k true hb).1 (Nat.not_lt.2 h3)
    ·rw[h.excl i g k ei hb]at h3;cases h3
 ·intro i k b hb p ht;rcases Nat.lt_or_ge p t.size with hp|hp
  ·by_cases ei:i=g
   ·rw[if_pos ei]at hb;rcases hh k b hb with hb|⟨hr,_⟩
    ·rw[ei];exact(h.shared g k b hb p (ht.old hp)).append
    ·exact absurd (h.lt p k true (ht.old hp)) (Nat.not_lt.2 hr)
   ·rw[if_neg ei]at hb;exact(h.shared i k b hb p (ht.old hp)).append
  ·have ⟨h1,_,_,h3⟩:=hto p k true ht (Nat.not_lt.2 hp);by_cases ei:i=g
   ·rw[ei];exact knowNew p h1
   ·rw[if_neg ei]at hb;rcases h3 with h3|⟨b',h3,e⟩
    ·exact absurd (h.held i k b hb).1 (Nat.not_lt.2 h3)
    ·cases e rfl;rw[h.excl g i k (fun e=>ei e.symm) h3]at hb;cases hb
 ·intro i j k b b' hs hij hti htj hw;rcases Nat.lt_or_ge j t.size with hj|hj
  ·exact(h.norace i j k b b' hs hij (hti.old (Nat.lt_trans hij hj)) (htj.old hj) hw).append
  ·have ⟨h1,_,_,h3⟩:=hto j k b' htj (Nat.not_lt.2 hj);cases hq:(t++MemOp.ofEvents g fn pos es)[j]? with
   | none=>rw[hq]at h1;cases h1
   | some z =>
    rw[hq]at h1;simp at h1;rcases Nat.lt_or_ge i t.size with hi|hi
    ·have ht:=hti.old hi;have hk:Knows t i g:=by
      rcases h3 with h3|⟨c,h3,e⟩
      ·exact absurd (h.lt i k b ht) (Nat.not_lt.2 h3)
      ·cases hw with
       | inl hb=>subst hb;exact h.shared g k c h3 i ht
       | inr hb=>cases e hb;exact h.own g k h3 i b ht
     rw[<- h1]at hk;exact hk.new hq hj
    ·have ⟨h1',_,_,_⟩:=hto i k b hti (Nat.not_lt.2 hi);cases hq':(t++MemOp.ofEvents g fn pos es)[i]? with
     | none=>rw[hq']at h1';cases h1'
     | some x=>rw[hq']at h1';simp at h1';exact HB.po hij hq' hq (h1'.trans h1.symm)
 ·intro i j k b b' hs hij hti htj hw hpl;rcases Nat.lt_or_ge j t.size with hj|hj
  ·have hi:=Nat.lt_trans hij hj;exact(h.spc i j k b b' hs hij (hti.old hi) (htj.old hj) hw (hpl.imp (·.old hi) (·.old hj))).append
  ·exact absurd hs (hto j k b' htj (Nat.not_lt.2 hj)).2.2.1
 ·intro p op x hp hx hk;rcases getElem?_append_cases hp with⟨_,hp'⟩|⟨_,hop⟩
  ·exact h.said p op x hp' hx hk
  ·exact absurd hk (evt op hop x hx).1
 ·intro i r hr;obtain⟨h1,h2⟩:=h.acc i r hr;refine⟨h1,fun p k b hk ht hp=>?_⟩;rcases Nat.lt_or_ge p t.size with hlt|hlt
  ·exact(h2 p k b hk (ht.old hlt) (hp.old hlt)).append
  ·exact absurd (hk▸h1) (hto p k b ht (Nat.not_lt.2 hlt)).2.2.1
 ·intro i hi p op hp hop hc;rcases getElem?_append_cases hp with⟨hpt,hp'⟩|⟨_,hm⟩
  ·exact(h.handed i hi p op hp' hop ((counts_old hpt).1 hc)).append
  ·rw[<- hop,hu op hm]at hi;exact absurd hi hng
 ·intro op hop a;rcases Array.mem_append.1 hop with hop|hop
  ·exact h.norel op hop a
  ·obtain⟨_,e,he,ha⟩:=ofEvents_mem hop;rw[ha];unfold MemAct.ofEvent;split
   ·exact nofun
   ·rename_i m _ _;cases (hes _ he).1 m rfl;exact nofun
   ·exact nofun
theorem Touches.untouched{t u:Trace}(hu:∀ op∈u,op.act.touch?=none){p:Nat}{k:Key}{b:Bool}(h:Touches (t++u) p k b):Touches t p k b:=by
 rcases Nat.lt_or_ge p t.size with hp|hp
 ·exact h.old hp
 ·obtain⟨op,x,h1,h2,_⟩:=h;rcases getElem?_append_cases h1 with⟨hp',_⟩|⟨_,hop⟩
  ·exact absurd hp' (Nat.not_lt.2 hp)
  ·rw[hu op hop]at h2;cases h2
theorem counts_untouched{t u:Trace}(hu:∀ op∈u,op.act.touch?=none){p:Nat}(h:(t++u).counts p):p<t.size/\t.counts p:=by
 rcases Nat.lt_or_ge p t.size with hp|hp
 ·exact⟨hp,(counts_old hp).1 h⟩
 ·obtain⟨x,hx,_⟩:=h;obtain⟨op,h1,h2⟩:=touch_of hx;rcases getElem?_append_cases h1 with⟨hp',_⟩|⟨_,hop⟩
  ·exact absurd hp' (Nat.not_lt.2 hp)
  ·rw[hu op hop]at h2;cases h2
theorem Deaf_mute{t u:Trace}(hu:∀ op∈u,∀ m,op.act≠.mark m)(g:Nat):Deaf (t++u) g=Deaf t g:=by
 obtain⟨l⟩:=u;rw[Deaf_append];have h':∀ op∈l,∀ m,op.act≠.mark m:=fun op hop=>hu op (by simpa using hop);generalize Deaf t g=d
 induction l generalizing d with
 | nil=>rfl
 | cons a l ih =>
  rw[List.foldl_cons];have e:deafStep g d a=d:=by
   unfold deafStep;split
   ·rename_i e;exact absurd e (h' a List.mem_cons_self _)
   ·rename_i e;exact absurd e (h' a List.mem_cons_self _)
   ·rfl
  rw[e];exact ih (fun op hop=>hu op (by simp at hop ⊢;exact .inr hop)) (fun op hop=>h' op (List.mem_cons_of_mem _ hop)) d
theorem TI.deal{y:Sy}{t u:Trace}{n ng ng':Nat}{hold hold':Nat->Key->Option Bool}{gone gone':Nat->Prop}(h:TI y t n ng hold gone)(hu:∀ op∈u,op.act.touch?=none/\(∀ m,op.act≠.mark m)/\op.g<ng')(hng:ng<=ng')
 (hgone:∀ g,gone g->gone' g)
 (held:∀ g k b,hold' g k=some b->k.1<n/\¬ y.sp k.1)(hx:∀ g g' k,g≠g'->hold' g k=some true->hold' g' k=none)
 (own:∀ g k,hold' g k=some true->∀ p b,Touches t p k b->Knows (t++u) p g)
 (shared:∀ g k b,hold' g k=some b->∀ p,Touches t p k true->Knows (t++u) p g)
 (handed:∀ g,gone' g->∀ p op,t[p]?=some op->op.g=g->t.counts p->Knows (t++u) p 0):TI y (t++u) n ng' hold' gone':=by
 have un:∀ op∈u,op.act.touch?=none:=fun op hop=>(hu op hop).1;refine⟨?_,?_,h.spl,fun p k b ht=>h.lt p k b (ht.untouched un),held,hx,fun g k hb p b ht=>own g k hb p b (ht.untouched un),fun g k b hb p ht=>shared g k b hb p (ht.untouched un),?_,?_,?_,?_,?_,fun op hop a=>(Array.mem_append.1 hop).elim (fun hop=>h.norel op hop a) fun hop=>(hu op hop).2.1 _⟩
 ·intro g hg;rw[Deaf_mute fun op hop=>(hu op hop).2.1];exact h.hears g fun e=>hg (hgone g e)
 ·intro op hop;rcases Array.mem_append.1 hop with hop|hop
  ·exact Nat.lt_of_lt_of_le (h.who op hop) hng
  ·exact(hu op hop).2.2
 ·intro i j k b b' hs hij hi hj hw;exact(h.norace i j k b b' hs hij (hi.untouched un) (hj.untouched un) hw).append
 ·intro i j k b b' hs hij hi hj hw hpl;have hi':=hi.untouched un;have hj':=hj.untouched un;exact(h.spc i j k b b' hs hij hi' hj' hw (hpl.imp (·.old hi'.lt) (·.old hj'.lt))).append
 ·intro p op x hp hx hk;rcases getElem?_append_cases hp with⟨_,hp'⟩|⟨_,hop⟩
  ·exact h.said p op x hp' hx hk
  ·rw[un op hop]at hx;cases hx
 ·intro g r hr;obtain⟨h1,h2⟩:=h.acc g r hr;refine⟨h1,fun p k b hk ht hp=>?_⟩;have ht':=ht.untouched un;exact(h2 p k b hk ht' (hp.old ht'.lt)).append
 ·intro g hg p op hp hop hc;obtain⟨hlt,hc'⟩:=counts_untouched un hc;rw[getElem?_append_old hlt]at hp;exact handed g hg p op hp hop hc'
theorem TI.say{sy:Sy}{t:Trace}{n ng:Nat}{hold:Nat->Key->Option Bool}{gone:Nat->Prop}(h:TI sy t n ng hold gone){g:Nat}(hgn:g<ng)(hg:gone g){fn:FuncId}{pos:String}{es:Array Event}(hm:∀ e∈es,Event.mute e=true) :
  TI sy (t++MemOp.ofEvents g fn pos es) n ng hold gone:=by
 have hu:∀ op∈MemOp.ofEvents g fn pos es,op.g=g:=fun op hop=>(ofEvents_mem hop).1;have un:∀ op∈MemOp.ofEvents g fn pos es,op.act.touch?=none:=by
  intro op hop;obtain⟨_,e,he,ha⟩:=ofEvents_mem hop;rw[ha];exact touch_mute (hm e he)
 refine⟨?_,?_,h.spl,fun p k b ht=>h.lt p k b (ht.untouched un),h.held,h.excl,fun g k hb p b ht=>(h.own g k hb p b (ht.untouched un)).append,fun g k b hb p ht=>(h.shared g k b hb p (ht.untouched un)).append,?_,?_,?_,?_,?_,?_⟩
 ·intro i hi;rw[Deaf_other t (fun (e:g=i)=>hi (by rw[<- e];exact hg)) _ hu];exact h.hears i hi
 ·intro op hop;rcases Array.mem_append.1 hop with hop|hop
  ·exact h.who op hop
  ·rw[hu op hop];exact hgn
 ·intro i j k b b' hs hij hi hj hw;exact(h.norace i j k b b' hs hij (hi.untouched un) (hj.untouched un) hw).append
 ·intro i j k b b' hs hij hi hj hw hpl;have hi':=hi.untouched un;have hj':=hj.untouched un;exact(h.spc i j k b b' hs hij hi' hj' hw (hpl.imp (·.old hi'.lt) (·.old hj'.lt))).append
 ·intro p op x hp hx hk;rcases getElem?_append_cases hp with⟨_,hp'⟩|⟨_,hop⟩
  ·exact h.said p op x hp' hx hk
  ·rw[un op hop]at hx;cases hx
 ·intro g r hr;obtain⟨h1,h2⟩:=h.acc g r hr;refine⟨h1,fun p k b hk ht hp=>?_⟩;have ht':=ht.untouched un;exact(h2 p k b hk ht' (hp.old ht'.lt)).append
 ·intro g hg p op hp hop hc;obtain⟨hlt,hc'⟩:=counts_untouched un hc;rw[getElem?_append_old hlt]at hp;exact(h.handed g hg p op hp hop hc').append
 ·intro op hop a;rcases Array.mem_append.1 hop with hop|hop
  ·exact h.norel op hop a
  ·obtain⟨_,e,he,ha⟩:=ofEvents_mem hop;rw[ha];intro hh;have hmu:=hm e he;unfold MemAct.ofEvent at hh;split at hh
   ·cases hh
   ·cases hh;cases hmu
   ·cases hh
end
section
theorem choose_at{P:Program}{q:Question}{m:Nat}(hm:0<m)(hq:q=.select m\/∃ s,q=.extern s m)(w:World):∃ n d,n<m/\∀ {β:Type} (f:Nat->Sem β),(choose q >>= f).run P w=(f n).run P (w.at d):=by
 by_cases hf:q.forced=true
 ·refine⟨0,w.drawn,hm,fun f=>?_⟩;show (Sem.choose q fun n=>(Sem.pure n).bind f).run P w=_;simp only[Sem.run,hf,if_true];rfl
 ·refine⟨q.cut (w.tape w.drawn q),w.drawn+1,?_,fun f=>?_⟩
  ·rcases hq with rfl|⟨s,rfl⟩
   ·exact Nat.mod_lt _ hm
   ·simp only[Question.cut];rw[if_neg (by omega)];exact Nat.mod_lt _ hm
  ·show (Sem.choose q fun n=>(Sem.pure n).bind f).run P w=_;simp only[Sem.run,hf];rfl
section
variable {P:Program} {gs:Array Goroutine} {w w₁:World} {sl:Option (Nat×Nat)} {i:Nat} {g g₂:Goroutine} {es:Array Event} {shape:CommShape} {cases:Array CommCase}
theorem crowd_sel_meets(hi:gs[i]?=some g)(h:stepG P (i==0) g w=.comm g₂ cases true shape w₁ es)
 (hcs:∀ (k:Nat) (cc:CommCase),cases[k]?=some cc->∃ c z s,cc=rcase c z/\w₁.heap[c]?=some (.chan 0 #[] false s s false))
 (hall:∀ c j k,(j,k)∈partners (gs.setIfInBounds i ph) c true->k=0/\j≠i/\∃ gj vj zj shj,gs[j]?=some (parked gj #[scase c vj zj] shj))
 (hne:∃ (k:Nat) (c:Nat) (z:Value),cases[k]?=some (rcase c z)/\partners (gs.setIfInBounds i ph) c true≠[]) :
  ∃ (k c:Nat) (z:Value) (s j:Nat) (gj:Goroutine) (vj zj:Value) (shj:CommShape) (d:Nat),cases[k]?=some (rcase c z)/\w₁.heap[c]?=some (.chan 0 #[] false s s false)/\j≠i/\gs[j]?=some (parked gj #[scase c vj zj] shj) /\
   runT P (crowd gs w sl) i=(.next (crowd ((gs.setIfInBounds j (gj.finishComm P #[scase c vj zj] shj 0 undef false)).setIfInBounds i (g₂.finishComm P cases shape k vj true)) ((w₁.at d).setChan c 0 #[] false (s+1) (s+1) false) sl),
    MemOp.ofEvents i g.frame.fn g.frame.place es++#[{ g:=j,fn:=gj.frame.fn,pos:=gj.frame.place,act:=.send c s },{ g:=i,fn:=g₂.frame.fn,pos:=g₂.frame.place,act:=.recv c s 0 },
     { g:=j,fn:=gj.frame.fn,pos:=gj.frame.place,act:=.sendDone c s },{ g:=i,fn:=g₂.frame.fn,pos:=g₂.frame.place,act:=.recvDone c s }]):=by
 rw[runT_crowd_comm hi h];have hill:cases.any (illMade w₁)=false:=any_ill fun cc hcc=>by
  obtain⟨k,hk⟩:=Array.mem_iff_getElem?.1 hcc;obtain⟨c,z,s,rfl,hc⟩:=hcs k cc hk;exact made_recv z hc
 have hways:∀ c z s,w₁.heap[c]?=some (.chan 0 #[] false s s false)->ways w₁ (gs.setIfInBounds i ph) (rcase c z)=(partners (gs.setIfInBounds i ph) c true).map fun (h,k)=>Way.partner h k:=by
  intro c z s hc;simp only[ways,rcase,hc];cases partners (gs.setIfInBounds i ph) c true<;>simp
 unfold communicate;dsimp only;rw[if_neg (show ¬ _ from fun e=>by have e':cases.any (illMade w₁)=true:=e;rw[hill]at e';cases e')];generalize hready:((cases.zipIdx.toList.map fun (c,k)=>(k,c,ways w₁ (gs.setIfInBounds i ph) c)).filter fun (_,_,ws)=>!ws.isEmpty)=ready;have hmem:∀ x∈ready,cases[x.1]?=some x.2.1/\x.2.2=ways w₁ (gs.setIfInBounds i ph) x.2.1/\x.2.2≠[]:=by
  rintro⟨k,c,ws⟩ hx;rw[<- hready]at hx;simp only[List.mem_filter,List.mem_map,Prod.mk.injEq,Prod.exists]at hx;obtain⟨⟨c',k',hm',rfl,rfl,rfl⟩,hne'⟩:=hx;have:=Array.mem_zipIdx_iff_getElem?.1 (Array.mem_toList_iff.1 hm');refine⟨by simpa using this,rfl,?_⟩;intro e;simp only at e;rw[e]at hne';simp at hne'
 have hrne:ready≠[]:=by
  obtain⟨k,c,z,hk,hp⟩:=hne;obtain⟨c',z',s,e,hc⟩:=hcs k _ hk;cases e;intro hnil;have:(k,rcase c z,ways w₁ (gs.setIfInBounds i ph) (rcase c z))∈ready:=by
   rw[<- hready];simp only[List.mem_filter,List.mem_map,Prod.mk.injEq,Prod.exists];refine⟨⟨rcase c z,k,Array.mem_toList_iff.2 (Array.mem_zipIdx_iff_getElem?.2 (by simpa using hk)),rfl,rfl,rfl⟩,?_⟩;rw[hways c z s hc];cases hps:partners (gs.setIfInBounds i ph) c true with
   | nil=>exact absurd hps hp
   | cons _ _=>rfl
  rw[hnil]at this;cases this
 have hre:ready.isEmpty=false:=by cases ready with
  | nil=>exact absurd rfl hrne
  | cons _ _=>rfl
 simp only[hre,Bool.false_eq_true,if_false];obtain⟨a,d1,ha,hrun1⟩:=choose_at (P:=P) (q:=.select ready.length) (List.length_pos_iff.2 hrne) (.inl rfl) w₁;obtain⟨⟨k,cc,ws⟩,hget⟩ : ∃ x,ready[a]?=some x:=⟨ready[a],List.getElem?_eq_getElem ha⟩
 obtain⟨hk,hws,hwne⟩:=hmem _ (List.mem_of_getElem? hget);simp only at hk hws hwne;obtain⟨c,z,s,rfl,hc⟩:=hcs k cc hk
 obtain ⟨b, d2, hb, hrun2⟩ := choose_at (P := P) (q := .extern "which waiting goroutine is the partner" ws.length) (List.length_pos_iff.2 hwne) (.inr ⟨_, rfl⟩) (w₁.at d1)
 rw[hways c z s hc]at hws;obtain⟨⟨j,kj⟩,hjk⟩ : ∃ p,(partners (gs.setIfInBounds i ph) c true)[b]?=some p:=by
  have hb':b<(partners (gs.setIfInBounds i ph) c true).length:=by rw[hws,List.length_map]at hb;exact hb
  exact⟨_,List.getElem?_eq_getElem hb'⟩
 obtain⟨rfl,hij,gj,vj,zj,shj,hj⟩:=hall c j kj (List.mem_of_getElem? hjk);have hgetD:ready.getD a (0,default,[])=(k,rcase c z,ws):=by rw[List.getD_eq_getElem?_getD,hget];rfl
 have hwD:ws.getD b .closed=.partner j 0:=by rw[hws];exact getD_map_partner _ b (j,0) hjk
 have hpick:(do
   let a <- choose (.select ready.length);let (k,c,ws):=ready.getD a (0,default,[])
   let b <- choose (.extern "which waiting goroutine is the partner" ws.length)
   pure (k,c,ws.getD b .closed):Sem (Nat×CommCase×Way)).run P w₁=.ok (k,rcase c z,.partner j 0) (w₁.at d2):=by
  rw[hrun1];simp only[hgetD];rw[hrun2,hwD];rfl
 refine⟨k,c,z,s,j,gj,vj,zj,shj,d2,hk,hc,hij,hj,?_⟩;have hj':=stand_get (i:=i) hij hj;have hfp:=finishPartner_at P (gs.setIfInBounds i ph) hj' (cs:=#[scase c vj zj]) (sh:=shj) rfl 0 undef;have hgd:(gs.setIfInBounds i ph).getD j default=parked gj #[scase c vj zj] shj:=by rw[Array.getD_eq_getD_getElem?,hj'];rfl
 have hov:offeredValue (gs.setIfInBounds i ph) j 0=vj:=by simp[offeredValue,hj',parked,scase]
 have hcd:(w₁.at d2).heap[c]?=some (.chan 0 #[] false s s false):=hc;rw[hpick];simp only[rcase];simp only[hcd,hfp,hgd,hov,set_stand2];rfl
theorem crowd_send_meets_sel{c s:Nat}{v z:Value}{j:Nat}{gj:Goroutine}{shj:CommShape}(hi:gs[i]?=some g)(h:stepG P (i==0) g w=.comm g₂ #[scase c v z] true shape w₁ es)(hc:w₁.heap[c]?=some (.chan 0 #[] false s s false))
 (hij:j≠i)(hj:gs[j]?=some (parked gj cases shj))(hne:partners (gs.setIfInBounds i ph) c false≠[])
 (hall:∀ j' k,(j',k)∈partners (gs.setIfInBounds i ph) c false->j'=j/\∃ zk,cases[k]?=some (rcase c zk)) :
  ∃ (k:Nat) (zk:Value) (d:Nat),cases[k]?=some (rcase c zk) /\
   runT P (crowd gs w sl) i=(.next (crowd ((gs.setIfInBounds j (gj.finishComm P cases shj k v true)).setIfInBounds i (g₂.finishComm P #[scase c v z] shape 0 undef false)) ((w₁.at d).setChan c 0 #[] false (s+1) (s+1) false) sl),
    MemOp.ofEvents i g.frame.fn g.frame.place es++#[{ g:=i,fn:=g₂.frame.fn,pos:=g₂.frame.place,act:=.send c s },{ g:=j,fn:=gj.frame.fn,pos:=gj.frame.place,act:=.recv c s 0 },
     { g:=i,fn:=g₂.frame.fn,pos:=g₂.frame.place,act:=.sendDone c s },{ g:=j,fn:=gj.frame.fn,pos:=gj.frame.place,act:=.recvDone c s }]):=by
 rw[runT_crowd_comm hi h];generalize hps:partners (gs.setIfInBounds i ph) c false=ps at hne hall;have hw:ways w₁ (gs.setIfInBounds i ph) (scase c v z)=ps.map fun (h,k)=>Way.partner h k:=by
  simp only[ways,scase,hc,hps];cases ps<;>simp_all
 have hill : #[scase c v z].any (illMade w₁)=false:=any_ill fun cc hcc=>by
  have:cc=scase c v z:=by simpa using hcc
  rw[this];exact made_send v z hc
 unfold communicate;dsimp only;rw[if_neg (show ¬ _ from fun e=>by have e' : #[scase c v z].any (illMade w₁)=true:=e;rw[hill]at e';cases e')];have hwne:(ps.map fun (h,k)=>Way.partner h k).isEmpty=false:=by cases ps with
  | nil=>exact absurd rfl hne
  | cons p ps=>rfl
 have hready:((#[scase c v z].zipIdx.toList.map fun (c,k)=>(k,c,ways w₁ (gs.setIfInBounds i ph) c)).filter fun (_,_,ws)=>!ws.isEmpty)=[(0,scase c v z,ps.map fun (h,k)=>Way.partner h k)]:=by
  simp[hw,hwne]
 rw[hready]
 obtain ⟨b, d2, hb, hrun2⟩ := choose_at (P := P) (q := .extern "which waiting goroutine is the partner" (ps.map fun (h, k) => Way.partner h k).length) (by rw [List.length_map]; exact List.length_pos_iff.2 hne) (.inr ⟨_, rfl⟩) w₁
 obtain⟨⟨j',k⟩,hjk⟩ : ∃ p,ps[b]?=some p:=by
  rw[List.length_map]at hb;exact⟨_,List.getElem?_eq_getElem hb⟩
 obtain⟨rfl,zk,hk⟩:=hall j' k (List.mem_of_getElem? hjk);refine⟨k,zk,d2,hk,?_⟩;have hpick:(do
   let a <- choose (.select [(0,scase c v z,ps.map fun (h,k)=>Way.partner h k)].length);let (k,c,ws):=[(0,scase c v z,ps.map fun (h,k)=>Way.partner h k)].getD a (0,default,[])
   let b <- choose (.extern "which waiting goroutine is the partner" ws.length)
   pure (k,c,ws.getD b .closed):Sem (Nat×CommCase×Way)).run P w₁=.ok (0,scase c v z,.partner j' k) (w₁.at d2):=by
  show (choose _ >>= fun b=>pure (0,scase c v z,(ps.map fun (h,k)=>Way.partner h k).getD b .closed):Sem (Nat×CommCase×Way)).run P w₁=_;rw[hrun2,getD_map_partner _ b (j',k) hjk];rfl
 have hj':=stand_get (i:=i) hij hj;have hfp:=finishPartner_at P (gs.setIfInBounds i ph) hj' (cs:=cases) (sh:=shj) rfl k v;have hgd:(gs.setIfInBounds i ph).getD j' default=parked gj cases shj:=by rw[Array.getD_eq_getD_getElem?,hj'];rfl
 have hcd:(w₁.at d2).heap[c]?=some (.chan 0 #[] false s s false):=hc;have hsn:((cases[k]?).map (·.send.isNone)).getD false=true:=by rw[hk];rfl
 rw[hsn]at hfp;rw[hpick];simp only[List.isEmpty_cons,Bool.false_eq_true,if_false];simp only[scase];simp only[hcd,hfp,hgd,set_stand2];rfl
end
end
section
def baseOf(P:Program)(ds:List Deferred):Frame:={ (default:Frame) with fn:=P.funcs.size,defers:=ds,mode:=.panicking [goexitEntry] }
structure Sends(P:Program)(fr:Frame)(cs:List Frame)(h:LH)(c:Nat)(z v:Value)(φ:Value->Cells->Prop)(s:Script)(hv hr:Cells):Prop where
 at_:AtOp fr
 step:∀ w,stepG P false (G fr cs) w=.comm (G fr cs) #[scase c v z] true .send w #[]
 todo:h.todo=(c,φ)::s
 get:h.get=hv.add hr
 disj:Disj hv hr
 own:∀ r x,hv r=some x->x.1=true
 val:φ v hv
def wstk(P:Program)(kd:CallKind)(cs:List Frame):Prop:=kd=.normal\/(kd=.deferred/\cs=[baseOf P []])
def XW:XP where
 cond P main R:=main=false/\∀ fr cs h c z v φ s hv hr,wstk P fr.kind cs->Sends P fr cs h c z v φ s hv hr->(s=[]->Ends P fr) ->
  (s≠[]->R (G (fr.finish undef) cs) { h with get:=hr,todo:=s })->R (G fr cs) h
 stk:=wstk
theorem Cells.add_assoc(a b c:Cells):(a.add b).add c=a.add (b.add c):=by
 funext r;unfold Cells.add;cases a r<;>rfl
theorem Sends.frame{P:Program}{fr:Frame}{cs:List Frame}{h:LH}{c:Nat}{z v:Value}{φ:Value->Cells->Prop}{s:Script}{hv hr:Cells}(a:Sends P fr cs h c z v φ s hv hr){k:Cells}(d:Disj h.get k) :
  Sends P fr cs (h.add k) c z v φ s hv (hr.add k) where
 at_:=a.at_
 step:=a.step
 todo:=a.todo
 get:=by show h.get.add k=_;rw[a.get,Cells.add_assoc]
 disj:=by
  have d':=d;rw[a.get]at d';exact(Disj.add a.disj.symm d'.of_add_left.symm).symm
 own:=a.own
 val:=a.val
theorem Sends.rest{P:Program}{fr:Frame}{cs:List Frame}{h:LH}{c:Nat}{z v:Value}{φ:Value->Cells->Prop}{s:Script}{hv hr:Cells}(a:Sends P fr cs h c z v φ s hv hr){k:Cells}(d:Disj h.get k):Disj hr k:=by
 rw[a.get]at d;exact Disj.of_add_right a.disj d
theorem XW_ok:XOK XW where
 frame P main R k _ hc:=by
  refine⟨hc.1,?_⟩;intro fr cs h c z v φ s hv hr hst hs he hn d;exact hc.2 fr cs (h.add k) c z v φ s hv (hr.add k) hst (hs.frame d) he fun hne=>hn hne (hs.rest d)
 stk P cs:=.inl rfl
abbrev LH.dp(h:LH):Nat:=h.chans.length
def LH.deaf(h:LH)(d:Nat):LH:={ h with chans:=List.replicate d 0 }
inductive Wk(P:Program):Goroutine->LH->Prop
 | step {fr:Frame} {cs:List Frame} {h:LH} {N:Goroutine->LH->Prop}:h.todo≠[]->LStep P false (G fr cs) h N->(∀ g' h',N g' h'->Wk P g' h')->Wk P (G fr cs) h
 | send {fr:Frame} {cs:List Frame} {h:LH} {c:Nat} {z v:Value} {φ:Value->Cells->Prop} {s:Script} {hv hr:Cells}:Sends P fr cs h c z v φ s hv hr->Wk P (G (fr.finish undef) cs) { h with get:=hr,todo:=s }->Wk P (G fr cs) h
 | quit {n:Nat} {g:Goroutine} {h:LH}:h.todo=[]->QuitsD P n h.dp g->Wk P g h
def Waits(P:Program)(g:Goroutine)(h:LH):Prop :=
 ∃ fr cs c z v φ s hv hr,g=parked (G fr cs) #[scase c v z] .send/\Sends P fr cs h c z v φ s hv hr/\Wk P (G (fr.finish undef) cs) { h with get:=hr,todo:=s }
def Wt(P:Program)(g:Goroutine)(h:LH):Prop:=Wk P g h\/Waits P g h
theorem Wk.status{P:Program}{g:Goroutine}{h:LH}(a:Wk P g h):g.status=.running\/g.status=.finished:=by
 cases a with
 | step _ _ _=>exact .inl rfl
 | send _ _=>exact .inl rfl
 | quit _ hq=>exact hq.status
theorem Wk.up{P:Program}{g:Goroutine}{h:LH}(a:Wk P g h):∀ k,Disj h.get k->Wk P g (h.add k):=by
 induction a with
 | step hne hs _ ih =>
  intro k d;refine .step hne (hs.frame d) ?_;rintro g' h₂ ⟨h',d',rfl,hN⟩;exact ih g' h' hN k d'
 | send hs _ ih=>intro k d;exact .send (hs.frame d) (ih k (hs.rest d))
 | quit h1 h2=>intro k d;exact .quit h1 h2
theorem results_nil{fd:Func}(h:fd.results=#[])(tmps:Array Value)(P:Program)(w:World):(results fd tmps).runT P w #[]=(.ok (.tuple #[]) w,#[]):=by
 have h1:(results fd tmps).run P w=.ok (.tuple #[]) w:=by simp[results,h]
 have h2:(results fd tmps).events P w #[]=#[]:=by simp[results,h]
 rw[<- Sem.runT_fst _ _ _ #[]]at h1;exact Prod.ext h1 h2
theorem ends_quits{P:Program}{fr:Frame}{v:Value}(e:Ends P fr):QuitsIn P 4 (G (fr.finish v) [baseOf P []]):=by
 obtain⟨⟨ops,i,ht⟩,hm,hd,hr,hk,fd,hf,hres⟩:=e;obtain⟨fn,tmps,todo,defers,mode,kind,ro⟩:=fr;simp only at ht hm hd hr hk hf;subst ht hm hd hr hk;have hbase:(P.funcs[P.funcs.size]?)=none:=Array.getElem?_eq_none (Nat.le_refl _);let tm:=(Frame.finish { fn:=fn,tmps:=tmps,todo:=[.inRegion ops [i]],defers:=[],mode:=.run,kind:=.deferred } v).tmps;refine .inr ⟨rfl,G { fn:=fn,tmps:=tm,todo:=[],defers:=[],mode:=.run,kind:=.deferred } [baseOf P []],fun w=>?_,
  .inr ⟨rfl,G { fn:=fn,tmps:=tm,todo:=[],defers:=[],mode:=.returning,kind:=.deferred } [baseOf P []],fun w=>?_,
  .inr ⟨rfl,G (baseOf P []) [],fun w=>?_,.inr ⟨rfl,{ frame:=baseOf P [],callers:=[],status:=.finished,dying:=none },fun w=>?_,rfl⟩⟩⟩⟩
 ·simp[G,stepG,stepG.exec,Frame.finish,tm]
 ·simp[G,stepG,stepG.exec]
 ·have h1:(results fd tm).run P w=.ok (.tuple #[]) w:=by rw[<- Sem.runT_fst _ _ _ #[],results_nil hres]
  have h2:(results fd tm).events P w #[]=#[]:=by show ((results fd tm).runT P w #[]).2=_;rw[results_nil hres]
  simp[G,stepG,unwind,hf,h1,h2,GStep.after,doReturn,baseOf,goexitEntry];rfl
 ·simp[G,stepG,unwind,baseOf,Frame.catches,goexitEntry,show (default:Frame).todo=[] from rfl]
theorem wk_closed(P:Program):Closed XW P false fun g h=>h.chans=[]->h.todo≠[]->Wk P g h:=by
 refine⟨⟨?_,?_⟩,rfl,?_⟩
 ·intro fr cs h N hs hN hch hne;refine .step (N:=fun g' h'=>N g' h'/\h'.todo=h.todo/\h'.chans=h.chans) hne ?_ fun g' h' hn=>hN g' h' hn.1 (by rw[hn.2.2];exact hch) (by rw[hn.2.1];exact hne);intro w hf;obtain⟨g',w',es,h',h1,h2,h3,h4⟩:=hs w hf;exact⟨g',w',es,h',h1,h2,h3,h4,rfl,rfl⟩
 ·intro g h k hw d hch hne;exact(hw hch hne).up k d
 ·intro fr cs h c z v φ s hv hr hst hs he hn hch hne;by_cases e:s=[]
  ·have hE:=he e;have hk:fr.kind=.deferred:=hE.2.2.2.2.1;rcases hst with h'|⟨_,rfl⟩
   ·rw[hk]at h';cases h'
   ·refine .send hs (.quit (n:=4) e ?_);show QuitsD P 4 h.chans.length _;rw[hch];exact QuitsD.of_quitsIn (ends_quits hE)
  ·exact .send hs (hn e hch e)
def Moves(P:Program)(g:Goroutine)(h:LH)(K:Goroutine->LH->Prop):Prop :=
 (∃ fr cs N,g=G fr cs/\h.todo≠[]/\LStep P false (G fr cs) h N/\∀ g' h',N g' h'->Wk P g' h'/\K g' h') \/
 (∃ fr cs c z v φ s hv hr,g=G fr cs/\Sends P fr cs h c z v φ s hv hr/\Wk P (G (fr.finish undef) cs) { h with get:=hr,todo:=s }/\K (parked (G fr cs) #[scase c v z] .send) h) \/
 (∃ fr cs c z v φ s hv hr,g=parked (G fr cs) #[scase c v z] .send/\Sends P fr cs h c z v φ s hv hr/\Wk P (G (fr.finish undef) cs) { h with get:=hr,todo:=s }) \/
 (h.todo=[]/\g.status=.finished) \/
 (h.todo=[]/\g.status=.running/\∃ n g' es,(∀ e∈es,Event.mute e=true)/\(∀ w,stepG P false g w=.go g' w es)/\QuitsD P n (deafBehind h.dp es) g'/\K g' (h.deaf (deafBehind h.dp es)))
inductive Run1(P:Program):Goroutine->LH->Prop
 | mk (g:Goroutine) (h:LH) (K:Goroutine->LH->Prop):Moves P g h K->(∀ g' h',K g' h'->Run1 P g' h')->Run1 P g h
theorem LH.dp_deaf(h:LH)(d:Nat):(h.deaf d).dp=d:=by simp[LH.deaf,LH.dp]
theorem run1_quit{P:Program}:∀ (n:Nat) (g:Goroutine) (h:LH),h.todo=[]->QuitsD P n h.dp g->Run1 P g h:=by
 intro n
 induction n with
 | zero=>intro g h h0 hq;exact .mk g h (fun _ _=>False) (.inr (.inr (.inr (.inl ⟨h0,hq.1⟩)))) fun _ _ hk=>hk.elim
 | succ n ih =>
  intro g h h0 hq;rcases hq with hq|⟨hr,g',es,hm,hw,hq'⟩
  ·exact .mk g h (fun _ _=>False) (.inr (.inr (.inr (.inl ⟨h0,hq.1⟩)))) fun _ _ hk=>hk.elim
  ·refine .mk g h (fun a b=>a=g'/\b=h.deaf (deafBehind h.dp es)) (.inr (.inr (.inr (.inr ⟨h0,hr,n,g',es,hm,hw,hq',rfl,rfl⟩)))) ?_;rintro a b ⟨e1,e2⟩;rw[e1,e2];exact ih g' _ h0 (by rw[LH.dp_deaf];exact hq')
theorem Wt.run1{P:Program}{g:Goroutine}{h:LH}(a:Wt P g h):Run1 P g h:=by
 have wait:∀ {fr:Frame} {cs:List Frame} {h:LH} {c:Nat} {z v:Value} {φ:Value->Cells->Prop} {s:Script} {hv hr:Cells},Sends P fr cs h c z v φ s hv hr->Wk P (G (fr.finish undef) cs) { h with get:=hr,todo:=s } ->
   Run1 P (parked (G fr cs) #[scase c v z] .send) h:=by
  intro fr cs h c z v φ s hv hr hs hw;exact .mk _ h (fun _ _=>False) (.inr (.inr (.inl ⟨fr,cs,c,z,v,φ,s,hv,hr,rfl,hs,hw⟩))) fun _ _ hk=>hk.elim
 rcases a with a|⟨fr,cs,c,z,v,φ,s,hv,hr,rfl,hs,hw⟩
 ·induction a with
  | @step fr cs h N hne hs hk ih=>exact .mk _ h N (.inl ⟨fr,cs,N,rfl,hne,hs,fun g' h' hn=>⟨hk g' h' hn,hn⟩⟩) ih
  | @send fr cs h c z v φ s hv hr hs hw _ =>
   refine .mk _ h (fun a b=>a=parked (G fr cs) #[scase c v z] .send/\b=h) (.inr (.inl ⟨fr,cs,c,z,v,φ,s,hv,hr,rfl,hs,hw,rfl,rfl⟩)) ?_;rintro _ _ ⟨rfl,rfl⟩;exact wait hs hw
  | quit h1 h2=>exact run1_quit _ _ _ h1 h2
 ·exact wait hs hw
inductive Sys(P:Program):List (Goroutine×LH)->Prop
 | mk (l:List (Goroutine×LH)) (K:Nat->Goroutine->LH->Prop):(∀ i g h,l[i]?=some (g,h)->Moves P g h (K i))->(∀ i g' h',i<l.length->K i g' h'->Sys P (l.set i (g',h')))->Sys P l
theorem Sys.cons{P:Program}{g:Goroutine}{h:LH}(a:Run1 P g h):∀ l,Sys P l->Sys P ((g,h)::l):=by
 induction a with
 | mk g h K hm hk ih =>
  intro l hl
  induction hl with
  | mk l Kl hml hkl ihl =>
   refine .mk _ (fun i=>match i with|0=>K|i+1=>Kl i) ?_ ?_
   ·intro i g' h' hi;cases i with
    | zero=>simp at hi;obtain⟨rfl,rfl⟩:=hi;exact hm
    | succ i=>exact hml i g' h' (by simpa using hi)
   ·intro i g' h' hi hK;cases i with
    | zero=>exact ih g' h' hK l (.mk l Kl hml hkl)
    | succ i=>exact ihl i g' h' (by simpa using hi) hK
theorem Sys.all{P:Program}:∀ (l:List (Goroutine×LH)),(∀ x∈l,Wt P x.1 x.2)->Sys P l
 | [],_=>.mk [] (fun _ _ _=>False) (fun i g h hi=>by simp at hi) (fun i g' h' hi=>by simp at hi)
 | x::l,h=>Sys.cons (h x (by simp)).run1 l (Sys.all l fun y hy=>h y (by simp[hy]))
end
section
abbrev holdsC(chans:List Nat)(cs:Nat->Cells)(j:Nat)(k:Key):Option Bool:=if j=0/\k.1∈chans then some true else (cs j k.1).map (·.1)
structure Mem(sy:Sy)(n0:Nat)(w0:World)(chans:List Nat)(cs:Nat->Cells)(ng:Nat)(gone:Nat->Prop)(w:World)(t:Trace):Prop where
 fits:∀ j,Fits (cs j) w
 whole:∀ j r b o,cs j r=some (b,o)->∀ i,¬ isHole o i
 dp0:∀ g,g≠0->sy.dp g=0
 ti:TI sy t w.heap.size ng (holdsC chans cs) gone
 chan:∀ c∈chans,∃ s,w.heap[c]?=some (.chan 0 #[] false s s false)
 free:∀ c∈chans,∀ j,cs j c=none
 out:∀ j,ng<=j->∀ r,cs j r=none
 pos:0<ng
 base:∀ r,r<n0->w.heap[r]?=w0.heap[r]?
 low:∀ j k,holdsC chans cs j k=some true->n0<=k.1
 size:n0<=w.heap.size
 os:w.os=w0.os
 tape:w.tape=w0.tape
 output:w.output=w0.output
variable {sy:Sy} {n0:Nat} {w0:World} {chans:List Nat} {cs:Nat->Cells} {ng:Nat} {gone:Nat->Prop} {w:World} {t:Trace}
theorem holdsC_of{j r:Nat}{q:Option Nat}{x:Bool×Obj}(hc:∀ c∈chans,∀ j,cs j c=none)(h:cs j r=some x):holdsC chans cs j (r,q)=some x.1:=by
 unfold holdsC;rw[if_neg]
 ·rw[h];rfl
 ·rintro⟨_,hr⟩;rw[hc r hr j]at h;cases h
theorem Mem.at(m:Mem sy n0 w0 chans cs ng gone w t)(d:Nat):Mem sy n0 w0 chans cs ng gone (w.at d) t :=
 ⟨m.fits,m.whole,m.dp0,m.ti,m.chan,m.free,m.out,m.pos,m.base,m.low,m.size,m.os,m.tape,m.output⟩
theorem Mem.apart(m:Mem sy n0 w0 chans cs ng gone w t){i j r:Nat}{o:Obj}(hij:i≠j)(h:cs i r=some (true,o)):cs j r=none:=by
 have h1:=m.ti.excl i j (r,none) hij (holdsC_of m.free h);cases hj:cs j r with
 | none=>rfl
 | some x=>rw[holdsC_of m.free hj]at h1;cases h1
def EvS(h:Cells)(n n':Nat)(e:Event):Prop:=EvOk h n n' { e with sync:=false }
theorem EvOk.toS{h:Cells}{n n':Nat}{e:Event}(he:EvOk h n n' e):EvS h n n' e:=by
 unfold EvS;unfold EvOk at he ⊢;simp only;split at he
 ·exact⟨trivial,he.2⟩
 ·exact he
 ·exact he
 ·exact he.elim
theorem Mem.stepS(m:Mem sy n0 w0 chans cs ng gone w t){j:Nat}(hj:j<ng)(hng:¬ gone j){h':Cells}{w':World}{es:Array Event}(fn:FuncId)(pos:String)
 (tr:Tr (cs j) w h' w')(hes:∀ e∈es,EvS (cs j) w.heap.size w'.heap.size e) :
  Mem sy n0 w0 chans (fun i=>if i=j then h' else cs i) ng gone w' (t++MemOp.ofEvents j fn pos es):=by
 have hold:holdsC chans (fun i=>if i=j then h' else cs i)=fun i=>if i=j then (fun k=>if j=0/\k.1∈chans then some true else (h' k.1).map (·.1)) else holdsC chans cs i:=by
  funext i k;by_cases e:i=j
  ·subst e;simp[holdsC]
  ·simp[holdsC,e]
 have hnew:∀ r,h' r=none->cs j r=none:=by
  intro r hr;cases hc:cs j r with
  | none=>rfl
  | some y=>obtain⟨x,hx,_⟩:=tr.keep r y hc;rw[hr]at hx;cases hx
 have hfree:∀ c∈chans,h' c=none:=by
  intro c hc;cases hx:h' c with
  | none=>rfl
  | some x =>
   rcases tr.new c x hx with⟨y,hy,_,_⟩|⟨hlt,_,_⟩
   ·rw[m.free c hc j]at hy;cases hy
   ·obtain⟨s,hs⟩:=m.chan c hc;exact absurd (Array.getElem?_eq_some_iff.1 hs).1 (Nat.not_lt.2 hlt)
 refine⟨?_,?_,m.dp0,?_,?_,?_,?_,m.pos,?_,?_,Nat.le_trans m.size tr.size,tr.os.trans m.os,tr.tape.trans m.tape,tr.output.trans m.output⟩
 ·intro i;by_cases e:i=j
  ·simp only[e,if_true];exact tr.fits
  ·simp only[e,if_false];intro r b o hr;have hw:=m.fits i r b o hr;rw[tr.other r (Fits.lt (m.fits i) hr) ?_];exact hw;rintro⟨o',ho'⟩;rw[m.apart (fun e'=>e e'.symm) ho']at hr;cases hr
 ·intro i r b o hr;by_cases e:i=j
  ·simp only[e,if_true]at hr;rcases tr.new r _ hr with⟨⟨b',o'⟩,hy,_,hh⟩|⟨_,_,hh⟩
   ·exact fun i hi=>m.whole j r b' o' hy i ((hh i).2 hi)
   ·exact hh
  ·simp only[e,if_false]at hr;exact m.whole i r b o hr
 ·rw[hold];refine m.ti.step hj hng tr.size ?_ ?_
  ·intro e he;have hev:=hes e he;have key:∀ (r:Nat) (q:Option Nat) (p:Obj->Prop),((w.heap.size<=r/\r<w'.heap.size)\/∃ x,cs j r=some x/\(e.write=true->x.1=true)/\p x.2)->r<w'.heap.size/\(w.heap.size<=r\/∃ b,holdsC chans cs j (r,q)=some b/\(e.write=true->b=true)):=by
    rintro r q p (⟨h1,h2⟩|⟨x,hx,hw,_⟩)
    ·exact⟨h2,.inl h1⟩
    ·exact⟨Nat.lt_of_lt_of_le (Fits.lt (m.fits j) hx) tr.size,.inr ⟨x.1,holdsC_of m.free hx,hw⟩⟩
   unfold EvS EvOk at hev;simp only at hev;split at hev
   ·rename_i a hl;refine⟨fun mk hm=>(by rw[hl]at hm;cases hm),fun r hr=>?_⟩;rw[hl]at hr;cases hr;exact key _ _ (fun o=>¬ isHole o a.off) hev.2
   ·rename_i r' hl;refine⟨fun mk hm=>(by rw[hl]at hm;cases hm),fun r hr=>?_⟩;rw[hl]at hr;cases hr;exact key _ _ (fun o=>∀ i,¬ isHole o i) hev
   ·rename_i mk hl;refine⟨fun mk' hm=>(by rw[hl]at hm;cases hm;exact hev),fun r hr=>?_⟩;rw[hl]at hr;cases hr
   ·exact hev.elim
  ·rintro⟨r,q⟩ b hb;by_cases hc:j=0/\r∈chans
   ·rw[if_pos hc]at hb;exact .inl (by unfold holdsC;rw[if_pos hc];exact hb)
   ·rw[if_neg hc]at hb;cases hx:h' r with
    | none=>rw[hx]at hb;cases hb
    | some x =>
     rw[hx]at hb;simp at hb;rcases tr.new r x hx with⟨y,hy,e,_⟩|⟨hlt,_,_⟩
     ·left;rw[holdsC_of m.free hy,e,hb]
     ·exact .inr ⟨hlt,Fits.lt tr.fits hx⟩
 ·intro c hc;obtain⟨s,hs⟩:=m.chan c hc;refine⟨s,?_⟩;rw[tr.other c (Array.getElem?_eq_some_iff.1 hs).1 ?_];exact hs;rintro⟨o,ho⟩;rw[m.free c hc j]at ho;cases ho
 ·intro c hc i;by_cases e:i=j
  ·simp only[e,if_true];exact hfree c hc
  ·simp only[e,if_false];exact m.free c hc i
 ·intro i hi r;have:i≠j:=fun e=>by subst e;exact absurd hj (Nat.not_lt.2 hi)
  simp only[this,if_false];exact m.out i hi r
 ·intro r hr;rw[tr.other r (Nat.lt_of_lt_of_le hr m.size) ?_]
  ·exact m.base r hr
  ·rintro⟨o,ho⟩;exact absurd (m.low j (r,none) (holdsC_of m.free ho)) (Nat.not_le.2 hr)
 ·rintro i ⟨r,q⟩ hr;rw[hold]at hr;by_cases e:i=j
  ·simp only[e,if_true]at hr;by_cases hc:j=0/\r∈chans
   ·exact m.low j (r,q) (by unfold holdsC;rw[if_pos hc])
   ·rw[if_neg hc]at hr;cases hx:h' r with
    | none=>rw[hx]at hr;cases hr
    | some x =>
     rw[hx]at hr;simp at hr;rcases tr.new r x hx with⟨y,hy,e',_⟩|⟨hlt,_,_⟩
     ·exact m.low j (r,q) (by rw[holdsC_of m.free hy,e',hr])
     ·exact Nat.le_trans m.size hlt
  ·simp only[e,if_false]at hr;exact m.low i (r,q) hr
theorem Mem.step(m:Mem sy n0 w0 chans cs ng gone w t){j:Nat}(hj:j<ng)(hng:¬ gone j){h':Cells}{w':World}{es:Array Event}(fn:FuncId)(pos:String)
 (tr:Tr (cs j) w h' w')(hes:∀ e∈es,EvOk (cs j) w.heap.size w'.heap.size e) :
  Mem sy n0 w0 chans (fun i=>if i=j then h' else cs i) ng gone w' (t++MemOp.ofEvents j fn pos es):=m.stepS hj hng fn pos tr fun e he=>(hes e he).toS
def freezeC(F:Nat->Bool)(h:Cells):Cells:=fun r=>match h r with
 | some (m,o)=>some (m&&!F r,o)
 | none=>none
theorem heard_at{t u:Trace}{i:Nat}{x:MemOp}(hx:(t++u)[t.size+i]?=some x)(hu:∀ op∈u,∀ m,op.act≠.mark m)(hd:Deaf t x.g=0):(t++u).heard (t.size+i):=by
 refine⟨x.g,by simp[Trace.g?,hx],?_⟩;have key:∀ n,n<=u.size->(t++u).deaf x.g (t.size+n)=0:=by
  intro n
  induction n with
  | zero=>intro _;rw[Nat.add_zero,deaf_old (Nat.le_refl _)];exact hd
  | succ n ih =>
   intro hn;obtain⟨z,hz⟩ : ∃ z,(t++u)[t.size+n]?=some z:=⟨_,Array.getElem?_eq_getElem (by simp;omega)⟩
   have hm:z∈u:=by
    rcases getElem?_append_cases hz with⟨h',_⟩|⟨_,h'⟩
    ·omega
    ·exact h'
   rw[<- Nat.add_assoc,deaf_succ hz,ih (by omega)];unfold deafStep;split
   ·rename_i e;exact absurd e (hu z hm _)
   ·rename_i e;exact absurd e (hu z hm _)
   ·rfl
 refine key i ?_;have:=lt_size_of_getElem? hx;simp at this;omega
theorem Knows.spawn{t:Trace}{p:Nat}{x y:MemOp}(h:Knows t p x.g)(hx:x.act=.go y.g)(hy:y.act=.start)(d0:Deaf t x.g=0)(d1:Deaf t y.g=0):Knows (t++#[x,y]) p y.g:=by
 have h1:(t++#[x,y])[t.size+0]?=some x:=by simp
 have h2:(t++#[x,y])[t.size+1]?=some y:=by simp
 have hu:∀ op∈(#[x,y]:Trace),∀ m,op.act≠.mark m:=by
  intro op hop m;simp only[List.mem_toArray,List.mem_cons,List.not_mem_nil,or_false]at hop;rcases hop with rfl|rfl
  ·rw[hx];exact nofun
  ·rw[hy];exact nofun
 exact⟨t.size+1,y,h2,rfl,.inr (.tail (h.new h1 (Nat.le_refl _)) (.inr ⟨.spawn (child:=y.g) (by simp[Trace.act?,hx]) (by simp[Trace.act?,hy]) (by simp[Trace.g?]),heard_at h1 hu d0,heard_at h2 hu d1⟩))⟩
theorem Mem.spawn(m:Mem sy n0 w0 chans cs ng gone w t)(F:Nat->Bool){hc:Cells}(hhc:∀ r x,hc r=some x->x.1=false/\freezeC F (cs 0) r=some x){x y:MemOp}(hx:x.g=0/\x.act=.go ng)(hy:y.g=ng/\y.act=.start)
 (d0:sy.dp 0=0){gone':Nat->Prop}(hg:∀ i,gone' i->gone i)(hg':∀ i,gone i->gone' i)(g0:¬ gone 0)(gn:¬ gone ng) :
  Mem sy n0 w0 chans (fun i=>if i=ng then hc else if i=0 then freezeC F (cs 0) else cs i) (ng+1) gone' w (t++#[x,y]):=by
 have hp:0≠ng:=Nat.ne_of_lt m.pos;have fz:∀ r z,freezeC F (cs 0) r=some z->∃ b,cs 0 r=some (b,z.2)/\(z.1=true->b=true):=by
  intro r z hz;unfold freezeC at hz;split at hz
  ·rename_i b o he;cases hz;exact⟨b,he,fun hb=>by simp only[Bool.and_eq_true]at hb;exact hb.1⟩
  ·cases hz
 have fzn:∀ r,cs 0 r=none->freezeC F (cs 0) r=none:=by intro r hr;unfold freezeC;rw[hr]
 have hold:∀ i (k:Key) b,holdsC chans (fun i=>if i=ng then hc else if i=0 then freezeC F (cs 0) else cs i) i k=some b ->
   (i=ng/\b=false/\∃ b',cs 0 k.1=some b')\/(i≠ng/\∃ b',holdsC chans cs i k=some b'/\(b=true->b'=true)):=by
  rintro i ⟨r,q⟩ b hb;by_cases e:i=ng
  ·left;unfold holdsC at hb;simp only[e,if_true,show ¬ (ng=0) from fun h=>hp h.symm,false_and,if_false]at hb;cases hcr:hc r with
   | none=>rw[hcr]at hb;cases hb
   | some z =>
    rw[hcr]at hb;simp at hb;obtain⟨h1,h2⟩:=hhc r z hcr;obtain⟨b',h3,_⟩:=fz r z h2;exact⟨e,by rw[<- hb];exact h1,_,h3⟩
  ·right;refine⟨e,?_⟩;unfold holdsC at hb ⊢;by_cases hch:i=0/\r∈chans
   ·rw[if_pos hch]at hb ⊢;exact⟨b,hb,id⟩
   ·rw[if_neg hch]at hb ⊢;simp only[e,if_false]at hb;by_cases e0:i=0
    ·simp only[e0,if_true]at hb;cases hz:freezeC F (cs 0) r with
     | none=>rw[hz]at hb;cases hb
     | some z =>
      rw[hz]at hb;simp at hb;obtain⟨b',h3,h4⟩:=fz r z hz;exact⟨b',by rw[e0,h3];rfl,fun h=>h4 (hb.trans h)⟩
    ·simp only[e0,if_false]at hb;exact⟨b,hb,id⟩
 have own1:∀ i (k:Key),holdsC chans (fun i=>if i=ng then hc else if i=0 then freezeC F (cs 0) else cs i) i k=some true->i≠ng/\holdsC chans cs i k=some true:=by
  intro i k hb;rcases hold i k true hb with⟨_,h,_⟩|⟨h,b',h1,h2⟩
  ·cases h
  ·cases h2 rfl;exact⟨h,h1⟩
 have kn:∀ p,Knows t p 0->Knows (t++#[x,y]) p ng:=by
  intro p h;have:=Knows.spawn (x:=x) (y:=y) (by rw[hx.1];exact h) (by rw[hx.2,hy.1]) hy.2 (by rw[hx.1,m.ti.hears 0 g0,d0]) (by rw[hy.1,m.ti.hears ng gn,m.dp0 ng (fun e=>hp e.symm)]);rw[hy.1]at this;exact this
 refine⟨?_,?_,m.dp0,?_,m.chan,?_,?_,Nat.succ_pos _,m.base,?_,m.size,m.os,m.tape,m.output⟩
 ·intro i r b o hr;by_cases e:i=ng
  ·simp only[e,if_true]at hr;obtain⟨b',h3,_⟩:=fz r _ (hhc r _ hr).2;exact m.fits 0 r _ _ h3
  ·simp only[e,if_false]at hr;by_cases e0:i=0
   ·simp only[e0,if_true]at hr;obtain⟨b',h3,_⟩:=fz r _ hr;exact m.fits 0 r _ _ h3
   ·simp only[e0,if_false]at hr;exact m.fits i r b o hr
 ·intro i r b o hr;by_cases e:i=ng
  ·simp only[e,if_true]at hr;obtain⟨b',h3,_⟩:=fz r _ (hhc r _ hr).2;exact m.whole 0 r _ _ h3
  ·simp only[e,if_false]at hr;by_cases e0:i=0
   ·simp only[e0,if_true]at hr;obtain⟨b',h3,_⟩:=fz r _ hr;exact m.whole 0 r _ _ h3
   ·simp only[e0,if_false]at hr;exact m.whole i r b o hr
 ·refine m.ti.deal ?_ (Nat.le_succ _) hg' ?_ ?_ ?_ ?_ ?_
  ·intro op hop;simp only[List.mem_toArray,List.mem_cons,List.not_mem_nil,or_false]at hop;rcases hop with rfl|rfl
   ·rw[hx.2];exact⟨rfl,(fun mk h=>by cases h),(by rw[hx.1];exact Nat.succ_pos _)⟩
   ·rw[hy.2];exact⟨rfl,(fun mk h=>by cases h),(by rw[hy.1];exact Nat.lt_succ_self _)⟩
  ·intro i k b hb;rcases hold i k b hb with⟨_,_,b',h⟩|⟨_,b',h,_⟩
   ·exact m.ti.held 0 k _ (holdsC_of m.free h)
   ·exact m.ti.held i k b' h
  ·rintro i j ⟨r,q⟩ hij hb0;obtain⟨hi,hb⟩:=own1 i (r,q) hb0;cases hj:holdsC chans (fun i=>if i=ng then hc else if i=0 then freezeC F (cs 0) else cs i) j (r,q) with
   | none=>rfl
   | some b =>
    exfalso;by_cases e:j=ng
    ·-- the child
     subst e;have hcr:∃ z,hc r=some z:=by
      unfold holdsC at hj;simp only[show ¬ (j=0) from fun h=>hp h.symm,false_and,if_false,if_true]at hj;cases hcr:hc r with
      | none=>rw[hcr]at hj;cases hj
      | some z=>exact⟨z,rfl⟩
     obtain⟨z,hz⟩:=hcr;obtain⟨z1,z2⟩:=hhc r z hz;obtain⟨b',h3,_⟩:=fz r z z2;by_cases e0:i=0
     ·subst e0;rcases hold 0 (r,q) true hb0 with⟨h,_⟩|⟨_,_⟩
      ·exact hp h
      ·unfold holdsC at hb0;by_cases hch:(0=0/\r∈chans)
       ·rw[m.free r hch.2 0]at h3;cases h3
       ·rw[if_neg hch]at hb0;simp only[hp,if_false,if_true]at hb0;rw[z2]at hb0;simp at hb0;rw[z1]at hb0;cases hb0
     ·have:=m.ti.excl i 0 (r,q) e0 hb;rw[holdsC_of m.free h3]at this;cases this
    ·rcases hold j (r,q) b hj with⟨h,_⟩|⟨_,b',h,_⟩
     ·exact e h
     ·rw[m.ti.excl i j (r,q) hij hb]at h;cases h
  ·intro i r hb p b ht;obtain⟨_,hb⟩:=own1 i r hb;exact(m.ti.own i r hb p b ht).append
  ·intro i r b hb p ht;rcases hold i r b hb with⟨e,_,b',h⟩|⟨_,b',h,_⟩
   ·rw[e];exact kn p (m.ti.shared 0 r _ (holdsC_of m.free h) p ht)
   ·exact(m.ti.shared i r b' h p ht).append
  ·intro i hi p op h1 h2 h3;exact(m.ti.handed i (hg i hi) p op h1 h2 h3).append
 ·intro c hcc i;by_cases e:i=ng
  ·simp only[e,if_true];cases hz:hc c with
   | none=>rfl
   | some z =>
    obtain⟨b',h3,_⟩:=fz c z (hhc c z hz).2;rw[m.free c hcc 0]at h3;cases h3
  ·simp only[e,if_false];by_cases e0:i=0
   ·simp only[e0,if_true];exact fzn c (m.free c hcc 0)
   ·simp only[e0,if_false];exact m.free c hcc i
 ·intro i hi r;have e:i≠ng:=fun e=>by subst e;exact absurd hi (Nat.not_le.2 (Nat.lt_succ_self _))
  have e0:i≠0:=fun e=>by subst e;exact absurd hi (Nat.not_le.2 (Nat.succ_pos _))
  simp only[e,e0,if_false];exact m.out i (Nat.le_of_succ_le hi) r
 ·intro i r hb;exact m.low i r (own1 i r hb).2
theorem Mem.pass(m:Mem sy n0 w0 chans cs ng gone w t){j:Nat}(hj:j<ng)(hj0:j≠0)(d0:sy.dp 0=0){c s d:Nat}(hc:c∈chans)(hs:w.heap[c]?=some (.chan 0 #[] false s s false)){hv hr:Cells}(hget:cs j=hv.add hr)(hd:Disj hv hr)
 (hown:∀ r x,hv r=some x->x.1=true){a b e f:MemOp}(ha:a.g=j/\a.act=.send c s)(hb:b.g<ng/\b.act=.recv c s 0)(he:e.g<ng/\e.act=.sendDone c s)(hf:f.g=0/\f.act=.recvDone c s)
 {gone':Nat->Prop}(hg:∀ i,gone' i->i=j\/gone i)(hg':∀ i,gone i->gone' i)(g0:¬ gone 0)(gj:¬ gone j) :
  Disj (cs 0) hv/\Mem sy n0 w0 chans (fun i=>if i=j then hr else if i=0 then (cs 0).add hv else cs i) ng gone' ((w.at d).setChan c 0 #[] false (s+1) (s+1) false) (t++#[a,b,e,f]):=by
 have hvj:∀ r x,hv r=some x->cs j r=some x:=fun r x h=>by rw[hget];exact Cells.add_left h
 have hrj:∀ r x,hr r=some x->cs j r=some x:=fun r x h=>by rw[hget];exact Cells.add_right' hd h
 have hdj:Disj (cs 0) hv:=by
  intro r;cases h:hv r with
  | none=>exact .inr rfl
  | some x =>
   left;obtain⟨b,o⟩:=x;cases hown r _ h;exact m.apart hj0 (hvj r _ h)
 refine⟨hdj,?_⟩;have hsz:((w.at d).setChan c 0 #[] false (s+1) (s+1) false).heap.size=w.heap.size:=by simp[World.setChan,World.at]
 have hlt:c<w.heap.size:=(Array.getElem?_eq_some_iff.1 hs).1;have hheap:∀ r,r≠c->((w.at d).setChan c 0 #[] false (s+1) (s+1) false).heap[r]?=w.heap[r]?:=by
  intro r hr;unfold World.setChan;simp only[Array.getElem?_setIfInBounds_ne (Ne.symm hr)];rfl
 have hfits:∀ k:Cells,(∀ r x,k r=some x->∃ i,cs i r=some x)->Fits k ((w.at d).setChan c 0 #[] false (s+1) (s+1) false):=by
  intro k hk r b o hr;obtain⟨i,hi⟩:=hk r _ hr;have hne:r≠c:=by rintro rfl;rw[m.free r hc i]at hi;cases hi
  rw[hheap r hne];exact m.fits i r b o hi
 have hold:∀ i (k:Key) b,holdsC chans (fun i=>if i=j then hr else if i=0 then (cs 0).add hv else cs i) i k=some b ->
   (i=0/\(∃ x,hv k.1=some x)/\holdsC chans cs j k=some b)\/((hv k.1=none\/k.1∈chans)/\holdsC chans cs i k=some b)\/(i≠0/\i≠j/\holdsC chans cs i k=some b):=by
  rintro i ⟨r,q⟩ b h;by_cases ej:i=j
  ·subst ej;right;left;unfold holdsC at h;simp only[hj0,false_and,if_false,if_true]at h;cases hx:hr r with
   | none=>rw[hx]at h;cases h
   | some x =>
    rw[hx]at h;simp at h;refine⟨.inl ?_,by rw[holdsC_of m.free (hrj r x hx),h]⟩;rcases hd r with h'|h'
    ·exact h'
    ·rw[hx]at h';cases h'
  ·by_cases e0:i=0
   ·subst e0;by_cases hch:r∈chans
    ·right;left;refine⟨.inr hch,?_⟩;unfold holdsC at h ⊢;rw[if_pos ⟨rfl,hch⟩]at h ⊢;exact h
    ·unfold holdsC at h;simp only[hch,and_false,if_false,ej,if_true]at h;cases hx:(cs 0).add hv r with
     | none=>rw[hx]at h;cases h
     | some x =>
      rw[hx]at h;simp at h;rcases Cells.add_some hx with h0|⟨_,h1⟩
      ·right;left;refine⟨.inl ?_,by rw[holdsC_of m.free h0,h]⟩;rcases hdj r with h'|h'
       ·rw[h0]at h';cases h'
       ·exact h'
      ·exact .inl ⟨rfl,⟨x,h1⟩,by rw[holdsC_of m.free (hvj r x h1),h]⟩
   ·right;right;refine⟨e0,ej,?_⟩;unfold holdsC at h ⊢;simp only[e0,ej,false_and,if_false]at h ⊢;exact h
 have kn:∀ p,Knows t p j->Knows (t++#[a,b,e,f]) p 0:=by
  intro p h;have h1:(t++#[a,b,e,f])[t.size+0]?=some a:=by simp
  have h4:(t++#[a,b,e,f])[t.size+3]?=some f:=by simp
  have hu:∀ op∈(#[a,b,e,f]:Trace),∀ m,op.act≠.mark m:=by
   intro op hop m;simp only[List.mem_toArray,List.mem_cons,List.not_mem_nil,or_false]at hop;rcases hop with rfl|rfl|rfl|rfl
   ·rw[ha.2];exact nofun
   ·rw[hb.2];exact nofun
   ·rw[he.2];exact nofun
   ·rw[hf.2];exact nofun
  rw[<- ha.1]at h;exact⟨t.size+3,f,h4,hf.1,.inr (.tail (h.new h1 (Nat.le_refl _)) (.inr ⟨.handOver (c:=c) (k:=s) (by simp[Trace.act?,ha.2]) (by simp[Trace.act?,hf.2]),
   heard_at h1 hu (by rw[ha.1,m.ti.hears j gj,m.dp0 j hj0]),heard_at h4 hu (by rw[hf.1,m.ti.hears 0 g0,d0])⟩))⟩
 have hvown:∀ r q x,hv r=some x->holdsC chans cs j (r,q)=some true:=fun r q x h=>by
  rw[holdsC_of m.free (hvj r x h),hown r x h]
 refine⟨?_,?_,m.dp0,?_,?_,?_,?_,m.pos,?_,?_,by rw[hsz];exact m.size,m.os,m.tape,m.output⟩
 ·intro i;by_cases ej:i=j
  ·simp only[ej,if_true];exact hfits hr fun r x h=>⟨j,hrj r x h⟩
  ·simp only[ej,if_false];by_cases e0:i=0
   ·simp only[e0,if_true];refine hfits _ fun r x h=>?_;rcases Cells.add_some h with h|⟨_,h⟩
    ·exact⟨0,h⟩
    ·exact⟨j,hvj r x h⟩
   ·simp only[e0,if_false];exact hfits _ fun r x h=>⟨i,h⟩
 ·intro i r b o h;by_cases ej:i=j
  ·simp only[ej,if_true]at h;exact m.whole j r b o (hrj r _ h)
  ·simp only[ej,if_false]at h;by_cases e0:i=0
   ·simp only[e0,if_true]at h;rcases Cells.add_some h with h|⟨_,h⟩
    ·exact m.whole 0 r b o h
    ·exact m.whole j r b o (hvj r _ h)
   ·simp only[e0,if_false]at h;exact m.whole i r b o h
 ·rw[hsz];refine m.ti.deal ?_ (Nat.le_refl _) hg' ?_ ?_ ?_ ?_ ?_
  ·intro op hop;simp only[List.mem_toArray,List.mem_cons,List.not_mem_nil,or_false]at hop;rcases hop with rfl|rfl|rfl|rfl
   ·rw[ha.2];exact⟨rfl,(fun mk h=>by cases h),(by rw[ha.1];exact hj)⟩
   ·rw[hb.2];exact⟨rfl,(fun mk h=>by cases h),hb.1⟩
   ·rw[he.2];exact⟨rfl,(fun mk h=>by cases h),he.1⟩
   ·rw[hf.2];exact⟨rfl,(fun mk h=>by cases h),(by rw[hf.1];exact m.pos)⟩
  ·intro i r b' h;rcases hold i r b' h with⟨_,_,h⟩|⟨_,h⟩|⟨_,_,h⟩<;>exact m.ti.held _ r b' h
  ·rintro i i' ⟨r,q⟩ hii h;cases h':holdsC chans (fun i=>if i=j then hr else if i=0 then (cs 0).add hv else cs i) i' (r,q) with
   | none=>rfl
   | some b' =>
    exfalso
    -- who held it before
    have w1:=hold i (r,q) true h;have w2:=hold i' (r,q) b' h';have clash:∀ u u',u≠u'->holdsC chans cs u (r,q)=some true->holdsC chans cs u' (r,q)=some b'->False:=by
     intro u u' hu h1 h2;rw[m.ti.excl u u' (r,q) hu h1]at h2;cases h2
    have clash':∀ u u' z,u≠u'->holdsC chans cs u' (r,q)=some true->holdsC chans cs u (r,q)=some z->False:=by
     intro u u' z hu h1 h2;rw[m.ti.excl u' u (r,q) (Ne.symm hu) h1]at h2;cases h2
    have hfree:∀ x,hv r=some x->r∈chans->False:=by
     intro x hx hch;have:=hvj r x hx;rw[m.free r hch j]at this;cases this
    rcases w1 with⟨e0,⟨x,hx⟩,h1⟩|⟨hn,h1⟩|⟨n0',nj,h1⟩
    ·rcases w2 with⟨e0',_,_⟩|⟨hn',h2⟩|⟨_,nj',h2⟩
     ·exact hii (e0.trans e0'.symm)
     ·rcases hn' with hn'|hn'
      ·rw[hx]at hn';cases hn'
      ·exact hfree x hx hn'
     ·exact clash j i' (Ne.symm nj') h1 h2
    ·rcases w2 with⟨e0',⟨x,hx⟩,h2⟩|⟨hn',h2⟩|⟨_,nj',h2⟩
     ·rcases hn with hn|hn
      ·rw[hx]at hn;cases hn
      ·exact hfree x hx hn
     ·exact clash i i' hii h1 h2
     ·exact clash i i' hii h1 h2
    ·rcases w2 with⟨e0',⟨x,hx⟩,h2⟩|⟨hn',h2⟩|⟨_,nj',h2⟩
     ·exact clash i j nj h1 h2
     ·exact clash i i' hii h1 h2
     ·exact clash i i' hii h1 h2
  ·intro i r h p b' ht;rcases hold i r true h with⟨e0,_,h1⟩|⟨_,h1⟩|⟨_,_,h1⟩
   ·rw[e0];exact kn p (m.ti.own j r h1 p b' ht)
   ·exact(m.ti.own i r h1 p b' ht).append
   ·exact(m.ti.own i r h1 p b' ht).append
  ·intro i r b' h p ht;rcases hold i r b' h with⟨e0,_,h1⟩|⟨_,h1⟩|⟨_,_,h1⟩
   ·rw[e0];exact kn p (m.ti.shared j r b' h1 p ht)
   ·exact(m.ti.shared i r b' h1 p ht).append
   ·exact(m.ti.shared i r b' h1 p ht).append
  ·intro i hi p op h1 h2 h3;rcases hg i hi with rfl|hi
   ·rw[<- h2]at kn;exact kn p (Knows.self h1)
   ·exact(m.ti.handed i hi p op h1 h2 h3).append
 ·intro c' hc';by_cases e:c'=c
  ·subst e;refine⟨s+1,?_⟩;simp[World.setChan,World.at,hlt]
  ·obtain⟨s',hs'⟩:=m.chan c' hc';exact⟨s',by rw[hheap c' e];exact hs'⟩
 ·intro c' hc' i;by_cases ej:i=j
  ·simp only[ej,if_true];cases h:hr c' with
   | none=>rfl
   | some x=>have:=hrj c' x h;rw[m.free c' hc' j]at this;cases this
  ·simp only[ej,if_false];by_cases e0:i=0
   ·simp only[e0,if_true];rw[Cells.add_right (m.free c' hc' 0)];cases h:hv c' with
    | none=>rfl
    | some x=>have:=hvj c' x h;rw[m.free c' hc' j]at this;cases this
   ·simp only[e0,if_false];exact m.free c' hc' i
 ·intro i hi r;have ej:i≠j:=fun e=>by subst e;exact absurd hj (Nat.not_lt.2 hi)
  have e0:i≠0:=fun e=>by subst e;exact absurd m.pos (Nat.not_lt.2 hi)
  simp only[ej,e0,if_false];exact m.out i hi r
 ·intro r hr';have hne:r≠c:=by
   rintro rfl;have:=m.low 0 (r,none) (by unfold holdsC;rw[if_pos ⟨rfl,hc⟩]);exact absurd this (Nat.not_le.2 hr')
  rw[hheap r hne];exact m.base r hr'
 ·intro i r h;rcases hold i r true h with⟨_,_,h1⟩|⟨_,h1⟩|⟨_,_,h1⟩<;>exact m.low _ r h1
theorem Mem.turn(m:Mem sy n0 w0 chans cs ng gone w t){chans':List Nat}{k:Cells}(hf:Fits k w)(hwh:∀ r b o,k r=some (b,o)->∀ i,¬ isHole o i)
 (hh:∀ r b,holdsC chans' (fun i=>if i=0 then k else cs i) 0 r=some b->∃ b',holdsC chans cs 0 r=some b'/\(b=true->b'=true))
 (hch:∀ c∈chans',k c=none/\(∀ i,i≠0->cs i c=none)/\∃ s,w.heap[c]?=some (.chan 0 #[] false s s false)):Mem sy n0 w0 chans' (fun i=>if i=0 then k else cs i) ng gone w t:=by
 have hold:∀ i r b,holdsC chans' (fun i=>if i=0 then k else cs i) i r=some b->∃ b',holdsC chans cs i r=some b'/\(b=true->b'=true):=by
  intro i r b h;by_cases e0:i=0
  ·subst e0;exact hh r b h
  ·refine⟨b,?_,id⟩;unfold holdsC at h ⊢;simp only[e0,false_and,if_false]at h ⊢;exact h
 have own1:∀ i r,holdsC chans' (fun i=>if i=0 then k else cs i) i r=some true->holdsC chans cs i r=some true:=by
  intro i r h;obtain⟨b',h1,h2⟩:=hold i r true h;cases h2 rfl;exact h1
 refine⟨?_,?_,m.dp0,?_,fun c hc=>(hch c hc).2.2,?_,?_,m.pos,m.base,fun i r h=>m.low i r (own1 i r h),m.size,m.os,m.tape,m.output⟩
 ·intro i;by_cases e0:i=0
  ·simp only[e0,if_true];exact hf
  ·simp only[e0,if_false];exact m.fits i
 ·intro i r b o h;by_cases e0:i=0
  ·simp only[e0,if_true]at h;exact hwh r b o h
  ·simp only[e0,if_false]at h;exact m.whole i r b o h
 ·refine m.ti.mono (Nat.le_refl _) (Nat.le_refl _) (fun _=>Iff.rfl) hold ?_;intro i j r hij h;cases h':holdsC chans' (fun i=>if i=0 then k else cs i) j r with
  | none=>rfl
  | some b =>
   obtain⟨b',h1,_⟩:=hold j r b h';rw[m.ti.excl i j r hij (own1 i r h)]at h1;cases h1
 ·intro c hc i;by_cases e0:i=0
  ·simp only[e0,if_true];exact(hch c hc).1
  ·simp only[e0,if_false];exact(hch c hc).2.1 i e0
 ·intro i hi r;have e0:i≠0:=fun e=>by subst e;exact absurd m.pos (Nat.not_lt.2 hi)
  simp only[e0,if_false];exact m.out i hi r
end
section
abbrev Crew:=List (Goroutine×LH)
def cons'(s:Script)(l:List Script):List Script:=match s with | []=>l|a::s=>(a::s)::l
def pending:Crew->List Script
 | []=>[]
 | x::l=>cons' x.2.todo (pending l)
theorem cons'_perm(s:Script){l l':List Script}(h:List.Perm l l'):List.Perm (cons' s l) (cons' s l'):=by
 cases s with
 | nil=>exact h
 | cons a s=>exact h.cons _
theorem cons'_swap(a b:Script)(l:List Script):List.Perm (cons' a (cons' b l)) (cons' b (cons' a l)):=by
 cases a<;>cases b<;>first|exact List.Perm.refl _|exact List.Perm.swap _ _ _
theorem pending_set:∀ (ws:Crew) (i:Nat) (x:Goroutine×LH),ws[i]?=some x->∃ rest,List.Perm (pending ws) (cons' x.2.todo rest)/\∀ y:Goroutine×LH,List.Perm (pending (ws.set i y)) (cons' y.2.todo rest)
 | [],i,x,h=>by simp at h
 | a::ws,0,x,h=>by
  simp at h;subst h;exact⟨pending ws,List.Perm.refl _,fun y=>List.Perm.refl _⟩
 | a::ws,i+1,x,h=>by
  obtain⟨rest,h1,h2⟩:=pending_set ws i x (by simpa using h);exact⟨cons' a.2.todo rest,(cons'_perm _ h1).trans (cons'_swap _ _ _),fun y=>(cons'_perm _ (h2 y)).trans (cons'_swap _ _ _)⟩
theorem mem_pending{s:Script}:∀ {ws:Crew},s∈pending ws->s≠[]/\∃ x∈ws,x.2.todo=s:=by
 intro ws
 induction ws with
 | nil=>intro h;cases h
 | cons a ws ih =>
  intro h;have back:s∈pending ws->s≠[]/\∃ x∈a::ws,x.2.todo=s:=by
   intro h;obtain⟨h1,x,hx,h2⟩:=ih h;exact⟨h1,x,List.mem_cons_of_mem _ hx,h2⟩
  change s∈cons' a.2.todo (pending ws)at h;cases e:a.2.todo with
  | nil=>rw[e]at h;exact back h
  | cons b l =>
   rw[e]at h;rcases List.mem_cons.1 h with h|h
   ·exact⟨by rw[h];simp,a,List.mem_cons_self,by rw[e,h]⟩
   ·exact back h
theorem pending_mem{x:Goroutine×LH}(hne:x.2.todo≠[]):∀ {ws:Crew},x∈ws->x.2.todo∈pending ws:=by
 intro ws
 induction ws with
 | nil=>intro h;cases h
 | cons a ws ih =>
  intro h;change x.2.todo∈cons' a.2.todo (pending ws);rcases List.mem_cons.1 h with h|h
  ·subst h;cases e:x.2.todo with
   | nil=>exact absurd e hne
   | cons b l=>exact List.mem_cons_self
  ·have:=ih h;cases e:a.2.todo with
   | nil=>exact this
   | cons b l=>exact List.mem_cons_of_mem _ this
def cellsOf(h:LH)(ws:Crew):Nat->Cells
 | 0=>h.get
 | i+1=>match ws[i]? with|some x=>x.2.get|none=>fun _=>none
def goneW(ws:Crew):Nat->Prop
 | 0=>False
 | i+1=>∃ x,ws[i]?=some x/\x.2.todo=[]
theorem cellsOf_set{h:LH}{ws:Crew}{i:Nat}(hi:i<ws.length)(g:Goroutine)(h':LH):cellsOf h (ws.set i (g,h'))=fun k=>if k=i+1 then h'.get else cellsOf h ws k:=by
 funext k;cases k with
 | zero=>simp[cellsOf]
 | succ k =>
  by_cases e:k=i
  ·subst e;simp[cellsOf,hi]
  ·simp[cellsOf,e,List.getElem?_set_ne (Ne.symm e)]
theorem goneW_set{ws:Crew}{i:Nat}{x y:Goroutine×LH}(hi:ws[i]?=some x)(e:y.2.todo=x.2.todo):goneW (ws.set i y)=goneW ws:=by
 funext k;cases k with
 | zero=>rfl
 | succ k =>
  have hlt:i<ws.length:=(List.getElem?_eq_some_iff.1 hi).1;by_cases ek:k=i
  ·subst ek;simp only[goneW,List.getElem?_set_self hlt,hi,Option.some.injEq,exists_eq_left',e]
  ·simp only[goneW,List.getElem?_set_ne (Ne.symm ek)]
theorem goneW_set'{ws:Crew}{i:Nat}{x y:Goroutine×LH}(hi:ws[i]?=some x):∀ k,goneW (ws.set i y) k->k=i+1\/goneW ws k:=by
 intro k hk;cases k with
 | zero=>exact hk.elim
 | succ k =>
  by_cases ek:k=i
  ·exact .inl (by rw[ek])
  ·right;simp only[goneW,List.getElem?_set_ne (Ne.symm ek)]at hk ⊢;exact hk
structure InvD(dz:Nat)(P:Program)(sy:Sy)(n0:Nat)(w0:World)(h:LH)(ws:Crew)(w:World)(t:Trace):Prop where
 mem:Mem sy n0 w0 h.chans (cellsOf h ws) (ws.length+1) (goneW ws) w t
 wk:∀ x∈ws,Wt P x.1 x.2
 scripts:∀ x∈ws,∀ y∈x.2.todo,y.1∈h.chans
 pend:List.Perm h.pend (pending ws)
 quit:∀ (i:Nat) x,ws[i]?=some x->Deaf t (i+1)=x.2.dp
 deep:sy.dp 0=dz
abbrev Inv:=InvD 0
def EndsWell(P:Program)(Φ:Value->World->Prop)(m:Machine)(t:Trace):Prop :=
 ∃ n last o w' t',runNT P (n+1) m t=(.ended o w',t')/\runN P n m=.next last/\Go.step P last=.ended o w'/\Go.Conc.Good P Φ last o w' t'
variable {P:Program} {Φ:Value->World->Prop} {sy:Sy} {n0:Nat} {w0:World} {h:LH} {ws:Crew} {w:World} {t:Trace} {sl:Option (Nat×Nat)} {dz:Nat}
theorem EndsWell.next{m m':Machine}{ops:Array MemOp}(hs:stepT P m=(.next m',ops))(h:EndsWell P Φ m' (t++ops)):EndsWell P Φ m t:=by
 obtain⟨n,last,o,w',t',h1,h2,h3,h4⟩:=h;exact⟨n+1,last,o,w',t',by rw[runNT_succ_next hs];exact h1,by rw[runN_succ_next hs];exact h2,h3,h4⟩
theorem InvD.at(I:InvD dz P sy n0 w0 h ws w t)(d:Nat):InvD dz P sy n0 w0 h ws (w.at d) t:=⟨I.mem.at d,I.wk,I.scripts,I.pend,I.quit,I.deep⟩
def crew(g:Goroutine)(ws:Crew):Array Goroutine:=(g::ws.map (·.1)).toArray
theorem crew_get0(g:Goroutine)(ws:Crew):(crew g ws)[0]?=some g:=by simp[crew]
theorem crew_get(g:Goroutine)(ws:Crew)(i:Nat):(crew g ws)[i+1]?=(ws[i]?).map (·.1):=by simp[crew]
theorem crew_size(g:Goroutine)(ws:Crew):(crew g ws).size=ws.length+1:=by simp[crew]
theorem crew_set(g:Goroutine)(ws:Crew)(i:Nat)(x:Goroutine×LH):(crew g ws).setIfInBounds (i+1) x.1=crew g (ws.set i x):=by simp[crew,List.map_set]
theorem crew_set0(g g':Goroutine)(ws:Crew):(crew g ws).setIfInBounds 0 g'=crew g' ws:=by simp[crew]
theorem crew_map{g:Goroutine}{ws:Crew}{f:Goroutine->Goroutine}(hg:f g=g)(hw:∀ x∈ws,f x.1=x.1):(crew g ws).map f=crew g ws:=by
 unfold crew;simp only[List.map_toArray,List.map_cons,hg,List.map_map];congr 2;exact List.map_congr_left hw
theorem Wt.woken{g:Goroutine}{h:LH}(a:Wt P g h){w':World}(ho:∀ y∈h.todo,∃ s,w'.heap[y.1]?=some (.chan 0 #[] false s s false))(x x':Goroutine):woken P x x' w' g=g:=by
 unfold Go.Conc.woken;split
 ·rcases a with a|⟨fr,cs,c,z,v,φ,s,hv,hr,rfl,hs,_⟩
  ·exact again_running _ a.status
  ·obtain⟨s,hc⟩:=ho (c,φ) (by rw[hs.todo];simp);exact again_send_open hc
 ·rfl
theorem Wt.awake{g:Goroutine}{h:LH}(a:Wt P g h):awake g:=by
 intro t e;rcases a with a|⟨fr,cs,c,z,v,φ,s,hv,hr,rfl,hs,_⟩
 ·rcases a.status with h|h<;>rw[h]at e<;>cases e
 ·cases e
theorem Wk.offers{g:Goroutine}{h:LH}(a:Wk P g h)(c:Nat)(b:Bool):offersAt g c b=[] :=
 offersAt_of_not_blocked (by rcases a.status with h|h<;>rw[h]<;>simp) _ _
theorem Wt.offers{g:Goroutine}{h:LH}(a:Wt P g h)(c:Nat):offersAt g c false=[]:=by
 rcases a with a|⟨fr,cs,c,z,v,φ,s,hv,hr,rfl,hs,_⟩
 ·exact a.offers _ _
 ·exact offersAt_parked_send' _ _ _ _ _ _
theorem Wt.offersT{g:Goroutine}{h:LH}(a:Wt P g h){c k:Nat}(hk:k∈offersAt g c true):k=0/\∃ fr cs z v φ s hv hr,g=parked (G fr cs) #[scase c v z] .send/\Sends P fr cs h c z v φ s hv hr/\Wk P (G (fr.finish undef) cs) { h with get:=hr,todo:=s }:=by
 rcases a with a|⟨fr,cs,c',z,v,φ,s,hv,hr,rfl,hs,hw⟩
 ·rw[a.offers]at hk;cases hk
 ·rw[offersAt_parked_send]at hk;split at hk
  ·rename_i e;subst e;exact⟨by simpa using hk,fr,cs,z,v,φ,s,hv,hr,rfl,hs,hw⟩
  ·cases hk
theorem InvD.open_(I:InvD dz P sy n0 w0 h ws w t){x:Goroutine×LH}(hx:x∈ws):∀ y∈x.2.todo,∃ s,w.heap[y.1]?=some (.chan 0 #[] false s s false) :=
 fun y hy=>I.mem.chan _ (I.scripts x hx y hy)
theorem not_gone{ws:Crew}{i:Nat}{x:Goroutine×LH}(hi:ws[i]?=some x)(hne:x.2.todo≠[]):¬ goneW ws (i+1):=by
 rintro⟨y,hy,h0⟩;rw[hi]at hy;cases hy;exact hne h0
theorem set_some{ws:Crew}{i j:Nat}{a x:Goroutine×LH}(hj:(ws.set i a)[j]?=some x):(j=i/\x=a)\/(j≠i/\ws[j]?=some x):=by
 by_cases e:j=i
 ·subst e;left;have hlt:j<ws.length:=by
   have:=(List.getElem?_eq_some_iff.1 hj).1;simpa using this
  rw[List.getElem?_set_self hlt]at hj;exact⟨rfl,(Option.some.inj hj).symm⟩
 ·rw[List.getElem?_set_ne (Ne.symm e)]at hj;exact .inr ⟨e,hj⟩
theorem InvD.relay(I:InvD dz P sy n0 w0 h ws w t){i:Nat}{gw g':Goroutine}{hw:LH}(hi:ws[i]?=some (gw,hw))(hk:Wt P g' hw):InvD dz P sy n0 w0 h (ws.set i (g',hw)) w t:=by
 have hlt:i<ws.length:=(List.getElem?_eq_some_iff.1 hi).1;have hmem:(gw,hw)∈ws:=List.mem_of_getElem? hi;have hc:cellsOf h (ws.set i (g',hw))=cellsOf h ws:=by
  rw[cellsOf_set hlt];funext k;by_cases e:k=i+1
  ·subst e;simp[cellsOf,hi]
  ·simp[e]
 obtain⟨rest,p1,p2⟩:=pending_set ws i _ hi;refine⟨?_,?_,?_,I.pend.trans (p1.trans (p2 (g',hw)).symm),fun j x hx=>(set_some hx).elim (fun ⟨e,ex⟩=>by rw[e,ex];exact I.quit i (gw,hw) hi) fun ⟨_,hx⟩=>I.quit j x hx,I.deep⟩
 ·rw[hc,goneW_set (y:=(g',hw)) hi rfl,List.length_set];exact I.mem
 ·intro x hx;rcases List.mem_or_eq_of_mem_set hx with hx|rfl
  ·exact I.wk x hx
  ·exact hk
 ·intro x hx;rcases List.mem_or_eq_of_mem_set hx with hx|rfl
  ·exact I.scripts x hx
  ·exact I.scripts (gw,hw) hmem
theorem InvD.stepW(I:InvD dz P sy n0 w0 h ws w t){i:Nat}{gw g':Goroutine}{hw:LH}(hi:ws[i]?=some (gw,hw))(hne:hw.todo≠[]){h':Cells}{w':World}{es:Array Event}(fn:FuncId)(pos:String)
 (tr:Tr hw.get w h' w')(hes:∀ e∈es,EvOk hw.get w.heap.size w'.heap.size e)(hk:Wk P g' { hw with get:=h' }):InvD dz P sy n0 w0 h (ws.set i (g',{ hw with get:=h' })) w' (t++MemOp.ofEvents (i+1) fn pos es):=by
 have hlt:i<ws.length:=(List.getElem?_eq_some_iff.1 hi).1;have hmem:(gw,hw)∈ws:=List.mem_of_getElem? hi;have hci:cellsOf h ws (i+1)=hw.get:=by simp[cellsOf,hi]
 obtain⟨rest,p1,p2⟩:=pending_set ws i _ hi;have hng:¬ goneW ws (i+1):=not_gone hi hne;have hu:∀ op∈MemOp.ofEvents (i+1) fn pos es,op.g=i+1:=fun op hop=>(ofEvents_mem hop).1;have hD:Deaf (t++MemOp.ofEvents (i+1) fn pos es) (i+1)=Deaf t (i+1):=by
  rw[Deaf_own,deafBehind_none];intro e he;have:=hes e he;unfold EvOk at this;refine⟨fun hl=>?_,fun hl=>?_⟩<;>(rw[hl]at this;cases this)
 refine⟨?_,?_,?_,I.pend.trans (p1.trans (p2 (g',{ hw with get:=h' })).symm),fun j x hx=>(set_some hx).elim (fun ⟨e,ex⟩=>by rw[e,ex,hD];exact I.quit i (gw,hw) hi) fun ⟨e,hx⟩=>by
  rw[Deaf_other t (fun e'=>e (Nat.succ.inj e').symm) _ hu];exact I.quit j x hx,I.deep⟩
 ·rw[cellsOf_set hlt,goneW_set (x:=(gw,hw)) (y:=(g',{ hw with get:=h' })) hi rfl,List.length_set];refine I.mem.step (Nat.succ_lt_succ hlt) ?_ fn pos (by rw[hci];exact tr) (by rw[hci];exact hes);rintro⟨x,hx,hx'⟩;rw[hi]at hx;cases hx;exact hne hx'
 ·intro x hx;rcases List.mem_or_eq_of_mem_set hx with hx|rfl
  ·exact I.wk x hx
  ·exact .inl hk
 ·intro x hx;rcases List.mem_or_eq_of_mem_set hx with hx|rfl
  ·exact I.scripts x hx
  ·exact I.scripts (gw,hw) hmem
theorem InvD.sayW(I:InvD dz P sy n0 w0 h ws w t){i:Nat}{gw g':Goroutine}{hw:LH}(hi:ws[i]?=some (gw,hw))(h0:hw.todo=[]){es:Array Event}(hm:∀ e∈es,Event.mute e=true)(fn:FuncId)(pos:String){n:Nat}(hq:QuitsD P n (deafBehind hw.dp es) g') :
  InvD dz P sy n0 w0 h (ws.set i (g',hw.deaf (deafBehind hw.dp es))) w (t++MemOp.ofEvents (i+1) fn pos es):=by
 have hlt:i<ws.length:=(List.getElem?_eq_some_iff.1 hi).1;have hmem:(gw,hw)∈ws:=List.mem_of_getElem? hi;have hc:cellsOf h (ws.set i (g',hw.deaf (deafBehind hw.dp es)))=cellsOf h ws:=by
  rw[cellsOf_set hlt];funext k;by_cases e:k=i+1
  ·subst e;simp[cellsOf,hi,LH.deaf]
  ·simp[e]
 have hu:∀ op∈MemOp.ofEvents (i+1) fn pos es,op.g=i+1:=fun op hop=>(ofEvents_mem hop).1;obtain⟨rest,p1,p2⟩:=pending_set ws i _ hi;refine⟨?_,?_,?_,I.pend.trans (p1.trans (p2 (g',hw.deaf (deafBehind hw.dp es))).symm),fun j x hx=>(set_some hx).elim (fun ⟨e,ex⟩=>by rw[e,ex,Deaf_own,I.quit i _ hi,LH.dp_deaf]) fun ⟨e,hx⟩=>by
  rw[Deaf_other t (fun e'=>e (Nat.succ.inj e').symm) _ hu];exact I.quit j x hx,I.deep⟩
 ·rw[hc,goneW_set (y:=(g',hw.deaf (deafBehind hw.dp es))) hi rfl,List.length_set];have m:=I.mem;exact⟨m.fits,m.whole,m.dp0,m.ti.say (Nat.succ_lt_succ hlt) ⟨_,hi,h0⟩ hm,m.chan,m.free,m.out,m.pos,m.base,m.low,m.size,m.os,m.tape,m.output⟩
 ·intro x hx;rcases List.mem_or_eq_of_mem_set hx with hx|rfl
  ·exact I.wk x hx
  ·exact .inl (.quit h0 (by rw[LH.dp_deaf];exact hq))
 ·intro x hx;rcases List.mem_or_eq_of_mem_set hx with hx|rfl
  ·exact I.scripts x hx
  ·intro y hy;rw[show (hw.deaf (deafBehind hw.dp es)).todo=[] from h0]at hy;cases hy
theorem InvD.pass(I:InvD 0 P sy n0 w0 h ws w t){i:Nat}{gw:Goroutine}{hw:LH}(hi:ws[i]?=some (gw,hw)){fr:Frame}{cs:List Frame}{c:Nat}{z v:Value}{φ:Value->Cells->Prop}{s:Script}{hv hr:Cells}
 (hs:Sends P fr cs hw c z v φ s hv hr)(hk:Wk P (G (fr.finish undef) cs) { hw with get:=hr,todo:=s }){n d:Nat}(hc:w.heap[c]?=some (.chan 0 #[] false n n false))
 {a b e f:MemOp}(ha:a.g=i+1/\a.act=.send c n)(hb:b.g=0/\b.act=.recv c n 0)(he:e.g=i+1/\e.act=.sendDone c n)(hf:f.g=0/\f.act=.recvDone c n) :
  ∃ pre post,h.pend=pre++((c,φ)::s)::post/\Disj h.get hv /\
   Inv P sy n0 w0 { h with get:=h.get.add hv,pend:=pre++cons' s post } (ws.set i (G (fr.finish undef) cs,{ hw with get:=hr,todo:=s })) ((w.at d).setChan c 0 #[] false (n+1) (n+1) false) (t++#[a,b,e,f]):=by
 have hlt:i<ws.length:=(List.getElem?_eq_some_iff.1 hi).1;have hmem:(gw,hw)∈ws:=List.mem_of_getElem? hi;have hci:cellsOf h ws (i+1)=hw.get:=by simp[cellsOf,hi]
 have hcc:c∈h.chans:=I.scripts _ hmem (c,φ) (by show (c,φ)∈hw.todo;rw[hs.todo];simp);obtain⟨rest,p1,p2⟩:=pending_set ws i _ hi;have hin:((c,φ)::s)∈h.pend:=I.pend.mem_iff.2 (by rw[<- hs.todo];exact pending_mem (x:=(gw,hw)) (by show hw.todo≠[];rw[hs.todo];simp) hmem);obtain⟨pre,post,hpp⟩:=List.append_of_mem hin;obtain⟨hdj,hm⟩:=I.mem.pass (j:=i+1) (d:=d) (Nat.succ_lt_succ hlt) (Nat.succ_ne_zero _) I.deep hcc hc (hci.trans hs.get) hs.disj hs.own ha ⟨by rw[hb.1];exact Nat.succ_pos _,hb.2⟩ ⟨by rw[he.1];exact Nat.succ_lt_succ hlt,he.2⟩ hf
  (goneW_set' (y:=(G (fr.finish undef) cs,{ hw with get:=hr,todo:=s })) hi)
  (fun k hk=>by
   cases k with
   | zero=>exact hk
   | succ k =>
    have:k≠i:=fun e=>by subst e;exact not_gone hi (by show hw.todo≠[];rw[hs.todo];simp) hk
    obtain⟨x,hx,h0⟩:=hk;exact⟨x,by rw[List.getElem?_set_ne (Ne.symm this)];exact hx,h0⟩)
  (fun h=>h) (not_gone hi (by show hw.todo≠[];rw[hs.todo];simp))
 have hmu:∀ op∈(#[a,b,e,f]:Trace),∀ m,op.act≠.mark m:=by
  intro op hop m;simp only[List.mem_toArray,List.mem_cons,List.not_mem_nil,or_false]at hop;rcases hop with rfl|rfl|rfl|rfl
  ·rw[ha.2];exact nofun
  ·rw[hb.2];exact nofun
  ·rw[he.2];exact nofun
  ·rw[hf.2];exact nofun
 refine⟨pre,post,hpp,hdj,?_,?_,?_,?_,fun j x hx=>by
  rw[Deaf_mute hmu];exact(set_some hx).elim (fun ⟨e,ex⟩=>by rw[e,ex];exact I.quit i (gw,hw) hi) fun ⟨_,hx⟩=>I.quit j x hx,I.deep⟩
 ·have hcells:(fun k=>if k=i+1 then hr else if k=0 then (cellsOf h ws 0).add hv else cellsOf h ws k)=cellsOf { h with get:=h.get.add hv,pend:=pre++cons' s post } (ws.set i (G (fr.finish undef) cs,{ hw with get:=hr,todo:=s })):=by
   rw[cellsOf_set hlt];funext k;cases k with
   | zero=>simp[cellsOf]
   | succ k=>by_cases e:k=i<;>simp[cellsOf,e]
  rw[<- hcells,List.length_set];exact hm
 ·intro x hx;rcases List.mem_or_eq_of_mem_set hx with hx|rfl
  ·exact I.wk x hx
  ·exact .inl hk
 ·intro x hx;rcases List.mem_or_eq_of_mem_set hx with hx|rfl
  ·exact I.scripts x hx
  ·intro y hy;exact I.scripts _ hmem y (by show y∈hw.todo;rw[hs.todo];exact List.mem_cons_of_mem _ hy)
 ·have q1:List.Perm (((c,φ)::s)::(pre++post)) (((c,φ)::s)::rest):=by
   have:List.Perm (cons' hw.todo rest) (((c,φ)::s)::rest):=by rw[hs.todo];exact List.Perm.refl _
   exact(List.perm_middle.symm.trans ((by rw[<- hpp]:List.Perm (pre++((c,φ)::s)::post) h.pend).trans (I.pend.trans p1))).trans this
  have q2:=q1.cons_inv;have q3:List.Perm (pre++cons' s post) (cons' s (pre++post)):=by
   cases s with
   | nil=>exact List.Perm.refl _
   | cons a s=>exact List.perm_middle
  exact(q3.trans (cons'_perm s q2)).trans (p2 (G (fr.finish undef) cs,{ hw with get:=hr,todo:=s })).symm
end
section
variable {P:Program} {Φ:Value->World->Prop} {sy:Sy} {n0:Nat} {w0:World} {h:LH} {ws:Crew} {w:World} {t:Trace} {sl:Option (Nat×Nat)} {dz:Nat}
theorem crew_awake{g:Goroutine}(hg:awake g)(hw:∀ x∈ws,Wt P x.1 x.2):∀ a∈crew g ws,awake a:=by
 intro a ha;unfold crew at ha;simp only[List.mem_toArray,List.mem_cons,List.mem_map]at ha;rcases ha with rfl|⟨x,hx,rfl⟩
 ·exact hg
 ·exact(hw x hx).awake
def MainOk(P:Program)(Φ:Value->World->Prop)(g:Goroutine)(h:LH)(ws:Crew)(w:World)(sl:Option (Nat×Nat))(t:Trace):Prop :=
 (∃ m' ops,runT P (crowd (crew g ws) w sl) 0=(.next m',ops)/\EndsWell P Φ m' (t++ops)) \/
 (∃ v w' ops,runT P (crowd (crew g ws) w sl) 0=(.ended (.done v) w',ops)/\Φ v w'/\h.pend=[]/\(∃ sy n hold,TI sy (t++ops) n (ws.length+1) hold (goneW ws))/\∀ (i:Nat) x,ws[i]?=some x->Deaf (t++ops) (i+1)=x.2.dp)
def TopD(dz:Nat)(P:Program)(n0:Nat)(w0:World)(Φ:Value->World->Prop)(g:Goroutine)(h:LH):Prop :=
 ∀ sy ws w sl t,InvD dz P sy n0 w0 h ws w t->EndsWell P Φ (crowd (crew g ws) w sl) t
abbrev Top:=TopD 0
def OpenAt(h:LH)(w:World):Prop:=∀ c∈h.chans,∃ s,w.heap[c]?=some (.chan 0 #[] false s s false)
theorem crew_woken{gm:Goroutine}{w':World}(hw:∀ x∈ws,Wt P x.1 x.2)(hsc:∀ x∈ws,∀ y∈x.2.todo,y.1∈h.chans)(ho:OpenAt h w'){x x':Goroutine}(hgm:woken P x x' w' gm=gm):(crew gm ws).map (woken P x x' w')=crew gm ws :=
 crew_map hgm fun y hy=>(hw y hy).woken (fun z hz=>ho _ (hsc y hy z hz)) _ _
theorem worker_step(I:InvD dz P sy n0 w0 h ws w t){gm:Goroutine}(hgm:∀ x x' w',OpenAt h w'->woken P x x' w' gm=gm){i:Nat}{fr:Frame}{cs:List Frame}{hw:LH}(hi:ws[i]?=some (G fr cs,hw))(hne:hw.todo≠[])
 {N:Goroutine->LH->Prop}(hs:LStep P false (G fr cs) hw N)(hN:∀ g' h',N g' h'->Wk P g' h') :
  ∃ g' h' w' ops,runT P (crowd (crew gm ws) w sl) (i+1)=(.next (crowd (crew gm (ws.set i (g',h'))) w' sl),ops)/\N g' h'/\h'.todo=hw.todo/\InvD dz P sy n0 w0 h (ws.set i (g',h')) w' (t++ops):=by
 have hci:cellsOf h ws (i+1)=hw.get:=by simp[cellsOf,hi]
 obtain⟨g',w',es,h',hgo,tr,hes,hn⟩:=hs w (by rw[<- hci];exact I.mem.fits (i+1));have I':=I.stepW hi hne (G fr cs).frame.fn (G fr cs).frame.place tr hes (hN g' _ hn);refine⟨g',{ hw with get:=h' },w',_,?_,hn,rfl,I'⟩;have hget:(crew gm ws)[i+1]?=some (G fr cs):=by rw[crew_get,hi];rfl
 rw[runT_crowd_go hget (by rw[show (i+1==0)=false from rfl];exact hgo)];have ho:OpenAt h w':=I'.mem.chan;rw[crew_woken I.wk I.scripts ho (hgm _ _ _ ho)];rw[crew_set gm ws i (g',{ hw with get:=h' })]
theorem worker_quit(I:InvD dz P sy n0 w0 h ws w t){gm:Goroutine}(hgm:∀ x x' w',OpenAt h w'->woken P x x' w' gm=gm){i:Nat}{gw g':Goroutine}{hw:LH}(hi:ws[i]?=some (gw,hw))(h0:hw.todo=[]){es:Array Event}(hmu:∀ e∈es,Event.mute e=true)
 (hs:∀ w,stepG P false gw w=.go g' w es){n:Nat}(hq:QuitsD P n (deafBehind hw.dp es) g') :
  ∃ ops,runT P (crowd (crew gm ws) w sl) (i+1)=(.next (crowd (crew gm (ws.set i (g',hw.deaf (deafBehind hw.dp es)))) w sl),ops)/\InvD dz P sy n0 w0 h (ws.set i (g',hw.deaf (deafBehind hw.dp es))) w (t++ops):=by
 have hget:(crew gm ws)[i+1]?=some gw:=by rw[crew_get,hi];rfl
 refine⟨_,?_,I.sayW hi h0 hmu gw.frame.fn gw.frame.place hq⟩;rw[runT_crowd_go hget (by rw[show (i+1==0)=false from rfl];exact hs w)];have ho:OpenAt h w:=I.mem.chan;rw[crew_woken I.wk I.scripts ho (hgm _ _ _ ho),crew_set gm ws i (g',hw.deaf (deafBehind hw.dp es))]
theorem worker_waits(I:InvD dz P sy n0 w0 h ws w t){gm:Goroutine}(hgm:∀ c,offersAt gm c false=[]){i:Nat}{fr:Frame}{cs:List Frame}{hw:LH}(hi:ws[i]?=some (G fr cs,hw)){c:Nat}{z v:Value}{φ:Value->Cells->Prop}{s:Script}{hv hr:Cells}
 (hs:Sends P fr cs hw c z v φ s hv hr)(hk:Wk P (G (fr.finish undef) cs) { hw with get:=hr,todo:=s }) :
  runT P (crowd (crew gm ws) w sl) (i+1)=(.next (crowd (crew gm (ws.set i (parked (G fr cs) #[scase c v z] .send,hw))) w sl),#[])/\InvD dz P sy n0 w0 h (ws.set i (parked (G fr cs) #[scase c v z] .send,hw)) w t:=by
 have hget:(crew gm ws)[i+1]?=some (G fr cs):=by rw[crew_get,hi];rfl
 refine⟨?_,I.relay hi (.inr ⟨fr,cs,c,z,v,φ,s,hv,hr,rfl,hs,hk⟩)⟩;obtain⟨n,hc⟩:=I.open_ (List.mem_of_getElem? hi) (c,φ) (by show (c,φ)∈hw.todo;rw[hs.todo];simp);have hp:partners ((crew gm ws).setIfInBounds (i+1) ph) c false=[]:=by
  refine partners_nil fun j g hj=>?_;rcases getElem?_stand _ _ _ _ hj with⟨_,rfl⟩|⟨_,hj⟩
  ·exact offersAt_ph _ _
  ·cases j with
   | zero=>rw[crew_get0]at hj;cases hj;exact hgm c
   | succ j =>
    rw[crew_get]at hj;cases hx:ws[j]? with
    | none=>rw[hx]at hj;cases hj
    | some x=>rw[hx]at hj;cases hj;exact(I.wk x (List.mem_of_getElem? hx)).offers c
 rw[crowd_waits (es:=#[]) hget (by rw[show (i+1==0)=false from rfl];exact hs.step w) (fun cc hcc=>by
  have:cc=scase c v z:=by simpa using hcc
  rw[this];exact ways_send_none hc (Nat.le_refl _) hp)]
 rw[crew_set gm ws i (parked (G fr cs) #[scase c v z] .send,hw)];rfl
theorem leaves_all(hw:∀ x∈ws,Wt P x.1 x.2)(h0:∀ x∈ws,x.2.todo=[]):∀ x∈ws,∃ n,QuitsD P n x.2.dp x.1:=by
 intro x hx;have h:=h0 x hx;obtain⟨g,hh⟩:=x;rcases hw _ hx with a|⟨fr,cs,c,z,v,φ,s,hv,hr,rfl,hs,_⟩
 ·cases a with
  | step hne _ _=>exact absurd h hne
  | send hs _=>have:=hs.todo;rw[h]at this;cases this
  | quit _ hq=>exact⟨_,hq⟩
 ·have:=hs.todo;rw[h]at this;cases this
theorem drive{g:Goroutine}(hg:g.status=.running)(hmain:∀ sy ws w sl t,InvD dz P sy n0 w0 h ws w t->MainOk P Φ g h ws w sl t):TopD dz P n0 w0 Φ g h:=by
 have hgm:∀ x x' w',OpenAt h w'->woken P x x' w' g=g:=fun x x' w' _=>by
  unfold woken;split
  ·exact again_running _ (.inl hg)
  ·rfl
 have hgo:∀ c,offersAt g c false=[]:=fun c=>offersAt_of_not_blocked (by rw[hg];simp) _ _;intro sy ws w sl t hI;have hS:=Sys.all ws hI.wk
 induction hS generalizing w sl t with
 | mk ws K hm hk ih =>
  obtain⟨i,gi,d,sl',hget,hrun,hst⟩:=crowd_pick (P:=P) (gs:=crew g ws) (w:=w) (sl:=sl) (crew_awake (fun t e=>by rw[hg]at e;cases e) hI.wk) ⟨0,g,crew_get0 g ws,hg⟩;have I:=hI.at d;cases i with
  | zero =>
   rw[crew_get0]at hget;cases hget;rcases hmain sy ws (w.at d) sl' t I with⟨m',ops,hr,he⟩|⟨v,w',ops,hr,hΦ,hp,⟨sy',n,hold,hT⟩,hD⟩
   ·exact EndsWell.next (hst.trans hr) he
   ·have h0:∀ x∈ws,x.2.todo=[]:=by
     intro x hx;by_cases e:x.2.todo=[]
     ·exact e
     ·have:=hI.pend.mem_iff.2 (pending_mem e hx);rw[hp]at this;cases this
    have hq:=leaves_all hI.wk h0;refine⟨0,crowd (crew g ws) w sl,.done v,w',t++ops,?_,rfl,?_,v,rfl,hΦ,hT.noRace,hT.handedOver ?_,⟨?_,rfl⟩,?_⟩
    ·simp[runNT,hst.trans hr]
    ·simp[Go.step,hst.trans hr]
    ·intro j hj hlt;cases j with
     | zero=>exact absurd rfl hj
     | succ j =>
      have hj':j<ws.length:=Nat.lt_of_succ_lt_succ hlt;exact⟨ws[j],List.getElem?_eq_getElem hj',h0 _ (List.getElem_mem hj')⟩
    ·intro x hx;have:x∈ws.map (·.1):=by simpa[crowd,crew] using hx
     obtain⟨y,hy,rfl⟩:=List.mem_map.1 this;obtain⟨n,hn⟩:=hq y hy;exact⟨n,hn.leaves⟩
    ·intro j x hx hne;cases j with
     | zero=>exact absurd rfl hne
     | succ j =>
      have hx':(crew g ws)[j+1]?=some x:=hx;rw[crew_get]at hx';cases hy:ws[j]? with
      | none=>rw[hy]at hx';cases hx'
      | some y =>
       rw[hy]at hx';cases hx';obtain⟨n,hn⟩:=hq y (List.mem_of_getElem? hy);have e:=hD j y hy;unfold Deaf at e;rw[e];exact⟨n,hn.hears _⟩
  | succ i =>
   rw[crew_get]at hget;cases hy:ws[i]? with
   | none=>rw[hy]at hget;cases hget
   | some y =>
    rw[hy]at hget;cases hget;obtain⟨gw,hw⟩:=y;have hlt:i<ws.length:=(List.getElem?_eq_some_iff.1 hy).1;simp only at hrun;rcases hm i gw hw hy with⟨fr,cs,N,rfl,hne,hs,hN⟩|⟨fr,cs,c,z,v,φ,s,hv,hr,rfl,hs,hwk,hK⟩|⟨fr,cs,c,z,v,φ,s,hv,hr,rfl,hs,hwk⟩|⟨h0,hf⟩|⟨h0,_,n,g',es,hmu,hsg,hq',hK⟩
    ·obtain⟨g',h',w',ops,hr,hn,_,I'⟩:=worker_step (sl:=sl') I hgm hy hne hs (fun g' h' hn=>(hN g' h' hn).1);exact EndsWell.next (hst.trans hr) (ih i g' h' hlt (hN g' h' hn).2 _ _ _ I')
    ·obtain⟨hr',I'⟩:=worker_waits (sl:=sl') I hgo hy hs hwk;exact EndsWell.next (hst.trans hr') (by rw[Array.append_empty];exact ih i _ _ hlt hK _ _ _ I')
    ·cases hrun
    ·rw[hf]at hrun;cases hrun
    ·obtain⟨ops,hr',I'⟩:=worker_quit (sl:=sl') I hgm hy h0 hmu hsg hq';exact EndsWell.next (hst.trans hr') (ih i _ _ hlt hK _ _ _ I')
end
section
variable {P:Program} {Φ:Value->World->Prop} {sy:Sy} {n0:Nat} {w0:World} {h:LH} {ws:Crew} {w:World} {t:Trace} {sl:Option (Nat×Nat)}
def Served(R:Goroutine->LH->Prop)(fr:Frame)(cs:List Frame)(cases:Array CommCase)(shape:CommShape)(h:LH):Prop :=
 ∀ pre φ s post (k:Nat) c v hv z,h.pend=pre++((c,φ)::s)::post->cases[k]?=some (rcase c z)->Disj h.get hv->(∀ r x,hv r=some x->x.1=true)->φ v hv ->
  R (G (fr.finish (commResult cases shape (k:Nat) v true)) cs) { h with get:=h.get.add hv,pend:=pre++cons' s post }
structure Receives(P:Program)(fr:Frame)(cs:List Frame)(cases:Array CommCase)(shape:CommShape)(h:LH):Prop where
 step:∀ w,stepG P true (G fr cs) w=.comm (G fr cs) cases true shape w #[]
 recv:∀ (k:Nat) (cc:CommCase),cases[k]?=some cc->∃ c z,cc=rcase c z/\c∈h.chans
 some_:h.pend≠[]
 heads:∀ s∈h.pend,∃ (c:Nat) (φ:Value->Cells->Prop) (s':Script) (k:Nat) (z:Value),s=(c,φ)::s'/\cases[k]?=some (rcase c z)
theorem taken(I:Inv P sy n0 w0 h ws w t){fr:Frame}{cs:List Frame}{cases:Array CommCase}{shape:CommShape}(hk:Served (Top P n0 w0 Φ) fr cs cases shape h){i:Nat}{gw:Goroutine}{hw:LH}(hi:ws[i]?=some (gw,hw))
 {fr':Frame}{cs':List Frame}{c:Nat}{z z' v:Value}{φ:Value->Cells->Prop}{s:Script}{hv hr:Cells}(hs:Sends P fr' cs' hw c z v φ s hv hr)(hwk:Wk P (G (fr'.finish undef) cs') { hw with get:=hr,todo:=s })
 {k n d:Nat}(hc:w.heap[c]?=some (.chan 0 #[] false n n false))(hcase:cases[k]?=some (rcase c z'))
 {a b e f:MemOp}(ha:a.g=i+1/\a.act=.send c n)(hb:b.g=0/\b.act=.recv c n 0)(he:e.g=i+1/\e.act=.sendDone c n)(hf:f.g=0/\f.act=.recvDone c n) :
  EndsWell P Φ (crowd (crew (G (fr.finish (commResult cases shape (k:Nat) v true)) cs) (ws.set i (G (fr'.finish undef) cs',{ hw with get:=hr,todo:=s }))) ((w.at d).setChan c 0 #[] false (n+1) (n+1) false) sl) (t++#[a,b,e,f]):=by
 obtain⟨pre,post,hpp,hdj,I'⟩:=I.pass hi hs hwk (d:=d) hc ha hb he hf;exact hk pre φ s post k c v hv z' hpp hcase hdj hs.own hs.val _ _ _ sl _ I'
theorem drive_waiting{fr:Frame}{cs:List Frame}{cases:Array CommCase}{shape:CommShape}(hR:Receives P fr cs cases shape h)(hk:Served (Top P n0 w0 Φ) fr cs cases shape h) :
  ∀ ws w sl t,Inv P sy n0 w0 h ws w t->(∀ x∈ws,Wk P x.1 x.2)->EndsWell P Φ (crowd (crew (parked (G fr cs) cases shape) ws) w sl) t:=by
 have hopen:∀ w',OpenAt h w'->(parked (G fr cs) cases shape).again w'=parked (G fr cs) cases shape:=by
  intro w' ho;have hcl:(cases.any fun c=>match c.chan with
    | .chan (some r)=>(w'.heap[r]? matches some (.chan _ _ true ..))
    | _=>false)=false:=by
   rw[Array.any_eq_false];intro k hlt;obtain⟨c,z,e,hc⟩:=hR.recv k _ (Array.getElem?_eq_getElem hlt);obtain⟨s,hs⟩:=ho c hc;rw[e];simp[rcase,hs]
  unfold Goroutine.again;simp only[parked];rw[if_neg];rw[Bool.not_eq_true];exact hcl
 have hgm:∀ x x' w',OpenAt h w'->woken P x x' w' (parked (G fr cs) cases shape)=parked (G fr cs) cases shape:=fun x x' w' ho=>by
  unfold woken;split
  ·exact hopen w' ho
  ·rfl
 intro ws w sl t hI hnw;have hS:=Sys.all ws hI.wk
 induction hS generalizing w sl t with
 | mk ws K hm hkk ih =>
  -- somebody runs
  obtain⟨j,y,hy,hne⟩ : ∃ (j:Nat) (y:Goroutine×LH),ws[j]?=some y/\y.2.todo≠[]:=by
   cases hp:h.pend with
   | nil=>exact absurd hp hR.some_
   | cons s l =>
    have:s∈pending ws:=hI.pend.mem_iff.1 (by rw[hp];simp);obtain⟨h1,x,hx,h2⟩:=mem_pending this;obtain⟨j,hj⟩:=List.getElem?_of_mem hx;exact⟨j,x,hj,by rw[h2];exact h1⟩
  have hrunj:y.1.status=.running:=by
   rcases hm j y.1 y.2 hy with⟨fr,cs,N,e,_⟩|⟨fr,cs,c,z,v,φ,s,hv,hr,e,_⟩|⟨fr,cs,c,z,v,φ,s,hv,hr,e,_⟩|⟨h0,_⟩|⟨h0,_⟩
   ·rw[e];rfl
   ·rw[e];rfl
   ·rcases(hnw y (List.mem_of_getElem? hy)).status with h|h<;>rw[e]at h<;>cases h
   ·exact absurd h0 hne
   ·exact absurd h0 hne
  obtain⟨i,gi,d,sl',hget,hrun,hst⟩:=crowd_pick (P:=P) (gs:=crew (parked (G fr cs) cases shape) ws) (w:=w) (sl:=sl) (crew_awake (fun t e=>by cases e) hI.wk) ⟨j+1,y.1,by rw[crew_get,hy];rfl,hrunj⟩;have I:=hI.at d;cases i with
  | zero=>rw[crew_get0]at hget;cases hget;cases hrun
  | succ i =>
   rw[crew_get]at hget;cases hy:ws[i]? with
   | none=>rw[hy]at hget;cases hget
   | some y =>
    rw[hy]at hget;cases hget;obtain⟨gw,hw⟩:=y;have hlt:i<ws.length:=(List.getElem?_eq_some_iff.1 hy).1;simp only at hrun;rcases hm i gw hw hy with⟨fr',cs',N,rfl,hne,hs,hN⟩|⟨fr',cs',c,z,v,φ,s,hv,hr,rfl,hs,hwk,hK⟩|⟨fr',cs',c,z,v,φ,s,hv,hr,rfl,hs,hwk⟩|⟨h0,hf⟩|⟨h0,_,n,g',es,hmu,hsg,hq',hK⟩
    ·obtain⟨g',h',w',ops,hr,hn,_,I'⟩:=worker_step (sl:=sl') I hgm hy hne hs (fun g' h' hn=>(hN g' h' hn).1);refine EndsWell.next (hst.trans hr) (ih i g' h' hlt (hN g' h' hn).2 _ _ _ I' ?_);intro x hx;rcases List.mem_or_eq_of_mem_set hx with hx|rfl
     ·exact hnw x hx
     ·exact(hN g' h' hn).1
    ·-- it meets the first
     have hsc:(((c,φ)::s):Script)∈h.pend:=hI.pend.mem_iff.2 (by
      have:=pending_mem (x:=(G fr' cs',hw)) (by show hw.todo≠[];rw[hs.todo];simp) (List.mem_of_getElem? hy);rw[show (G fr' cs',hw).2.todo=(c,φ)::s from hs.todo]at this;exact this)
     obtain⟨c₁,φ₁,s₁,k,zk,e₁,hcase⟩:=hR.heads _ hsc;cases e₁;obtain⟨n,hc⟩ : ∃ n,(w.at d).heap[c]?=some (.chan 0 #[] false n n false):=I.open_ (List.mem_of_getElem? hy) (c,φ) (by show (c,φ)∈hw.todo;rw[hs.todo];simp);have hget:(crew (parked (G fr cs) cases shape) ws)[i+1]?=some (G fr' cs'):=by rw[crew_get,hy];rfl
     have hmemp:∀ j' k',(j',k')∈partners ((crew (parked (G fr cs) cases shape) ws).setIfInBounds (i+1) ph) c false↔j'=0/\k'∈offersAt (parked (G fr cs) cases shape) c false:=by
      intro j' k';rw[mem_partners];constructor
      ·rintro⟨g,hg,hk'⟩;rcases getElem?_stand _ _ _ _ hg with⟨_,rfl⟩|⟨_,hg⟩
       ·rw[offersAt_ph]at hk';cases hk'
       ·cases j' with
        | zero=>rw[crew_get0]at hg;cases hg;exact⟨rfl,hk'⟩
        | succ j' =>
         rw[crew_get]at hg;cases hx:ws[j']? with
         | none=>rw[hx]at hg;cases hg
         | some x=>rw[hx]at hg;cases hg;rw[(I.wk x (List.mem_of_getElem? hx)).offers c]at hk';cases hk'
      ·rintro⟨rfl,hk'⟩;exact⟨_,stand_get (by simp) (crew_get0 _ _),hk'⟩
     have hoff:∀ k',k'∈offersAt (parked (G fr cs) cases shape) c false↔∃ zk,cases[k']?=some (rcase c zk):=by
      intro k';unfold offersAt parked;simp only[List.mem_map,List.mem_filter,Prod.exists];constructor
      ·rintro⟨cc,k₂,⟨hm',hcond⟩,rfl⟩;have hcc:=Array.mem_zipIdx_iff_getElem?.1 (Array.mem_toList_iff.1 hm');have hcc':cases[k₂]?=some cc:=by simpa using hcc
       obtain⟨c₂,z₂,rfl,_⟩:=hR.recv k₂ cc hcc';have:c₂=c:=by simpa[rcase] using hcond
       subst this;exact⟨z₂,hcc'⟩
      ·rintro⟨zk,hcc⟩;exact⟨rcase c zk,k',⟨Array.mem_toList_iff.2 (Array.mem_zipIdx_iff_getElem?.2 (by simpa using hcc)),by simp[rcase]⟩,rfl⟩
     obtain⟨k₃,z₃,d₃,hk₃,hrT⟩:=crowd_send_meets_sel (P:=P) (sl:=sl') (es:=#[]) (j:=0) (gj:=G fr cs) (shj:=shape) (cases:=cases) hget (by rw[show (i+1==0)=false from rfl];exact hs.step _) hc (by simp) (crew_get0 _ _)
      (by
       intro e;have:(0,k)∈partners ((crew (parked (G fr cs) cases shape) ws).setIfInBounds (i+1) ph) c false:=(hmemp 0 k).2 ⟨rfl,(hoff k).2 ⟨zk,hcase⟩⟩;rw[e]at this;cases this)
      (fun j' k' hjk=>⟨((hmemp j' k').1 hjk).1,(hoff k').1 ((hmemp j' k').1 hjk).2⟩)
     rw[crew_set0,show ((G fr' cs').finishComm P #[scase c v z] .send 0 undef false)=(G (fr'.finish undef) cs',{ hw with get:=hr,todo:=s }).1 from rfl,crew_set]at hrT;refine EndsWell.next (hst.trans hrT) ?_;have e0:MemOp.ofEvents (i+1) (G fr' cs').frame.fn (G fr' cs').frame.place #[]=#[]:=rfl;rw[e0,Array.empty_append];exact taken I hk hy hs hwk hc hk₃ ⟨rfl,rfl⟩ ⟨rfl,rfl⟩ ⟨rfl,rfl⟩ ⟨rfl,rfl⟩
    ·cases hrun
    ·rw[hf]at hrun;cases hrun
    ·obtain⟨ops,hr',I'⟩:=worker_quit (sl:=sl') I hgm hy h0 hmu hsg hq';refine EndsWell.next (hst.trans hr') (by
      refine ih i _ _ hlt hK _ _ _ I' ?_;intro x hx;rcases List.mem_or_eq_of_mem_set hx with hx|rfl
      ·exact hnw x hx
      ·exact .quit h0 (by rw[LH.dp_deaf];exact hq'))
theorem top_recv{fr:Frame}{cs:List Frame}{cases:Array CommCase}{shape:CommShape}(hR:Receives P fr cs cases shape h)(hk:Served (Top P n0 w0 Φ) fr cs cases shape h):Top P n0 w0 Φ (G fr cs) h:=by
 refine drive rfl fun sy ws w sl t I=>.inl ?_;have hcs:∀ (k:Nat) (cc:CommCase),cases[k]?=some cc->∃ c z s,cc=rcase c z/\w.heap[c]?=some (.chan 0 #[] false s s false):=by
  intro k cc hkc;obtain⟨c,z,e,hc⟩:=hR.recv k cc hkc;obtain⟨s,hs⟩:=I.mem.chan c hc;exact⟨c,z,s,e,hs⟩
 have hpart:∀ c j k,(j,k)∈partners ((crew (G fr cs) ws).setIfInBounds 0 ph) c true->k=0/\∃ i gw hw fr' cs' z v φ s hv hr,j=i+1/\ws[i]?=some (gw,hw)/\gw=parked (G fr' cs') #[scase c v z] .send/\Sends P fr' cs' hw c z v φ s hv hr/\Wk P (G (fr'.finish undef) cs') { hw with get:=hr,todo:=s }:=by
  intro c j k hjk;obtain⟨g,hg,hk'⟩:=mem_partners.1 hjk;rcases getElem?_stand _ _ _ _ hg with⟨_,rfl⟩|⟨hj0,hg⟩
  ·rw[offersAt_ph]at hk';cases hk'
  ·cases j with
   | zero=>exact absurd rfl hj0
   | succ i =>
    rw[crew_get]at hg;cases hx:ws[i]? with
    | none=>rw[hx]at hg;cases hg
    | some x =>
     rw[hx]at hg;cases hg;obtain⟨h0,fr',cs',z,v,φ,s,hv,hr,h1,h2,h3⟩:=(I.wk x (List.mem_of_getElem? hx)).offersT hk';exact⟨h0,i,x.1,x.2,fr',cs',z,v,φ,s,hv,hr,rfl,hx,h1,h2,h3⟩
 by_cases hne:∃ (k:Nat) (c:Nat) (z:Value),cases[k]?=some (rcase c z)/\partners ((crew (G fr cs) ws).setIfInBounds 0 ph) c true≠[]
 ·obtain⟨k,c,z,n,j,gj,vj,zj,shj,d,hcase,hc,hj0,hj,hrT⟩:=crowd_sel_meets (P:=P) (sl:=sl) (es:=#[]) (crew_get0 (G fr cs) ws) (hR.step w) hcs
   (fun c j k hjk=>by
    obtain⟨h0,i,gw,hw,fr',cs',z,v,φ,s,hv,hr,rfl,hx,rfl,_⟩:=hpart c j k hjk;exact⟨h0,by simp,G fr' cs',v,z,.send,by rw[crew_get,hx];rfl⟩) hne
  cases j with
  | zero=>exact absurd rfl hj0
  | succ i =>
   rw[crew_get]at hj;cases hx:ws[i]? with
   | none=>rw[hx]at hj;cases hj
   | some x =>
    rw[hx]at hj;simp only[Option.map_some,Option.some.injEq]at hj;obtain⟨gw,hw⟩:=x;simp only at hj;rcases I.wk (gw,hw) (List.mem_of_getElem? hx) with a|⟨fr',cs',c',z',v',φ,s,hv,hr,e,hs,hwk⟩
    ·rcases a.status with h'|h'<;>rw[hj]at h'<;>cases h'
    ·simp only at e;rw[hj]at e;have e1 : #[scase c vj zj]=#[scase c' v' z']/\shj=.send:=by
      have:=congrArg Goroutine.offers e;simpa[parked] using this
     have e2:c=c'/\vj=v'/\zj=z':=by
      have:=e1.1;simp[scase]at this;exact⟨this.1,this.2.1,this.2.2⟩
     obtain⟨rfl,rfl,rfl⟩:=e2;have e3:gj.finishComm P #[scase c vj zj] shj (0:Nat) undef false=G (fr'.finish undef) cs':=by
      rw[<- finishComm_parked P gj #[scase c vj zj] #[scase c vj zj] shj shj,e,e1.2];rfl
     rw[show ((0:Nat):Int)=0 from rfl]at e3;rw[e3,show G (fr'.finish undef) cs'=(G (fr'.finish undef) cs',{ hw with get:=hr,todo:=s }).1 from rfl,crew_set,crew_set0]at hrT;refine⟨_,_,hrT,?_⟩;have e0:MemOp.ofEvents 0 (G fr cs).frame.fn (G fr cs).frame.place #[]=#[]:=rfl;rw[e0,Array.empty_append];exact taken I hk hx hs hwk hc hcase ⟨rfl,rfl⟩ ⟨rfl,rfl⟩ ⟨rfl,rfl⟩ ⟨rfl,rfl⟩
 ·have hno:∀ (k:Nat) (c:Nat) (z:Value),cases[k]?=some (rcase c z)->partners ((crew (G fr cs) ws).setIfInBounds 0 ph) c true=[]:=by
   intro k c z hkc;cases hp:partners ((crew (G fr cs) ws).setIfInBounds 0 ph) c true with
   | nil=>rfl
   | cons a l=>exact absurd ⟨k,c,z,hkc,by rw[hp];simp⟩ hne
  refine⟨_,_,crowd_waits (es:=#[]) (crew_get0 (G fr cs) ws) (hR.step w) (fun cc hcc=>?_),?_⟩
  ·obtain⟨k,hkc⟩:=Array.mem_iff_getElem?.1 hcc;obtain⟨c,z,s,rfl,hs⟩:=hcs k cc hkc;exact ways_recv_none hs (hno k c z hkc)
  ·rw[crew_set0];have e0:MemOp.ofEvents 0 (G fr cs).frame.fn (G fr cs).frame.place #[]=#[]:=rfl;rw[e0,Array.append_empty];refine drive_waiting hR hk ws w sl t I ?_;intro x hx;rcases I.wk x hx with a|⟨fr',cs',c,z,v,φ,s,hv,hr,e,hs,hwk⟩
   ·exact a
   ·exfalso;have hsc:(((c,φ)::s):Script)∈h.pend:=I.pend.mem_iff.2 (by
     have:=pending_mem (x:=x) (by rw[hs.todo];simp) hx;rw[hs.todo]at this;exact this)
    obtain⟨c₁,φ₁,s₁,k,zk,e₁,hcase⟩:=hR.heads _ hsc;cases e₁;obtain⟨i,hi⟩:=List.getElem?_of_mem hx;have:(i+1,0)∈partners ((crew (G fr cs) ws).setIfInBounds 0 ph) c true:=by
     refine mem_partners.2 ⟨x.1,stand_get (by simp) (by rw[crew_get,hi];rfl),?_⟩;rw[e,offersAt_parked_send,if_pos rfl];simp
    rw[hno k c zk hcase]at this;cases this
end
section
variable {P:Program} {Φ:Value->World->Prop} {sy:Sy} {n0:Nat} {w0:World} {h:LH} {ws:Crew} {w:World} {t:Trace} {sl:Option (Nat×Nat)} {dz:Nat}
def dropC(h:Cells)(c:Nat):Cells:=fun r=>if r=c then none else h r
structure Spawns(P:Program)(fr:Frame)(cs:List Frame)(d:Deferred):Prop where
 step:∀ w,stepG P true (G fr cs) w=.spawn (G (fr.finish undef) cs) (G (baseOf P [d]) []) w #[]
def XT:XP where
 cond P main R:=main=true /\
  (∀ fr cs cases shape h,Receives P fr cs cases shape h->Served R fr cs cases shape h->R (G fr cs) h) /\
  (∀ fr cs h F hc d s,Spawns P fr cs d->(∀ r x,hc r=some x->x.1=false/\freezeC F h.get r=some x)->s≠[]->[]∉h.pend->(∀ y∈s,y.1∈h.chans)->Wk P (G (baseOf P [d]) []) ⟨hc,[],[],s⟩ ->
   R (G (fr.finish undef) cs) { h with get:=freezeC F h.get,pend:=h.pend++[s] }->R (G fr cs) h) /\
  (∀ g h c s,[]∉h.pend->h.get c=some (true,.chan 0 #[] false s s false)->R g { h with get:=dropC h.get c,chans:=c::h.chans }->R g h) /\
  (∀ g h c,c∈h.chans->h.pend=[]->(h.get c=none->∀ s,R g { h with get:=h.get.upd c (true,.chan 0 #[] false s s false),chans:=h.chans.filter (·≠c) })->R g h)
 stk _ _ _:=True
theorem freezeC_add(F:Nat->Bool)(a k:Cells):freezeC (fun r=>F r&&(a r).isSome) (a.add k)=(freezeC F a).add k:=by
 funext r;cases ha:a r with
 | some x=>simp[freezeC,Cells.add,ha]
 | none =>
  cases hk:k r with
  | none=>simp[freezeC,Cells.add,ha,hk]
  | some x=>simp[freezeC,Cells.add,ha,hk]
theorem XT_ok:XOK XT where
 frame P main R k _ hc:=by
  obtain⟨h0,h1,h2,h3,h4⟩:=hc;refine⟨h0,?_,?_,?_,?_⟩
  ·intro fr cs cases shape h hr hs d;refine h1 fr cs cases shape (h.add k) ⟨hr.step,hr.recv,hr.some_,hr.heads⟩ ?_;intro pre φ s post j c v hv z hp hcase hd hown hφ;have d1:Disj h.get hv:=hd.of_add_left;have d2:Disj k hv:=Disj.of_add_right d hd;have e:((h.get.add hv).add k)=((h.get.add k).add hv):=Cells.add_swap d2.symm;have:=hs pre φ s post j c v hv z hp hcase d1 hown hφ (Disj.add d d2.symm);unfold LH.add at this;simp only[e]at this;exact this
  ·intro fr cs h F hc d s hsp hhc hne hgu hch hw hn dk;refine h2 fr cs (h.add k) (fun r=>F r&&(h.get r).isSome) hc d s hsp ?_ hne hgu hch hw ?_
   ·intro r x hx;obtain⟨a,b⟩:=hhc r x hx;refine⟨a,?_⟩;show freezeC _ (h.get.add k) r=_;rw[freezeC_add];exact Cells.add_left b
   ·have e:freezeC (fun r=>F r&&(h.get r).isSome) (h.add k).get=(freezeC F h.get).add k:=freezeC_add F h.get k;rw[e];refine hn ?_;intro r;rcases dk r with hr|hr
    ·left;simp only[freezeC,hr]
    ·exact .inr hr
  ·intro g h c s hgu hs hn dk;refine h3 g (h.add k) c s hgu (Cells.add_left hs) ?_;have hk:k c=none:=by
    rcases dk c with h'|h'
    ·rw[hs]at h';cases h'
    ·exact h'
   have e:dropC (h.get.add k) c=(dropC h.get c).add k:=by
    funext r;unfold dropC Cells.add;by_cases e:r=c
    ·subst e;simp[hk]
    ·simp[e]
   have d':Disj (dropC h.get c) k:=by
    intro r;rcases dk r with hr|hr
    ·left;unfold dropC;split
     ·rfl
     ·exact hr
    ·exact .inr hr
   have:=hn d';unfold LH.add at this ⊢;simp only[e];exact this
  ·intro g h c hc hp hn dk;refine h4 g (h.add k) c hc hp ?_;intro hcn s;have hhc:h.get c=none:=by
    cases hx:h.get c with
    | none=>rfl
    | some x=>rw[show (h.add k).get c=some x from Cells.add_left hx]at hcn;cases hcn
   have hkc:k c=none:=by
    have:=hcn;rw[show (h.add k).get c=k c from Cells.add_right hhc]at this;exact this
   have e:(h.get.add k).upd c (true,.chan 0 #[] false s s false)=(h.get.upd c (true,.chan 0 #[] false s s false)).add k:=by
    funext r;unfold Cells.upd Cells.add;by_cases e:r=c<;>simp[e]
   have d':Disj (h.get.upd c (true,.chan 0 #[] false s s false)) k:=by
    intro r;by_cases e:r=c
    ·right;rw[e];exact hkc
    ·rw[Cells.upd_ne _ _ e];exact dk r
   have:=hn hhc s d';unfold LH.add at this ⊢;simp only[e];exact this
 stk P cs:=trivial
/-! ### Each move of the first goroutine -/
theorem cellsOf_main(h:LH)(ws:Crew)(k:Cells)(c:List Nat)(p:List Script)(s:Script):(fun i=>if i=0 then k else cellsOf h ws i)=cellsOf ⟨k,c,p,s⟩ ws:=by
 funext i;cases i<;>simp[cellsOf]
theorem top_step{fr:Frame}{cs:List Frame}{N:Goroutine->LH->Prop}(hs:LStep P true (G fr cs) h N)(hN:∀ g' h',N g' h'->TopD dz P n0 w0 Φ g' h'):TopD dz P n0 w0 Φ (G fr cs) h:=by
 refine drive rfl fun sy ws w sl t I=>.inl ?_;obtain⟨g',w',es,h',hgo,tr,hes,hn⟩:=hs w (I.mem.fits 0);have hm:=I.mem.step (j:=0) I.mem.pos (fun e=>e) (G fr cs).frame.fn (G fr cs).frame.place tr hes;rw[cellsOf_main h ws h' h.chans h.pend h.todo]at hm;refine⟨_,_,runT_crowd_go (crew_get0 (G fr cs) ws) hgo,?_⟩;have ho:OpenAt h w':=hm.chan;rw[crew_woken I.wk I.scripts ho (by unfold woken;split;exact again_running _ (.inl rfl);rfl),crew_set0];exact hN g' { h with get:=h' } hn _ ws w' sl _ ⟨hm,I.wk,I.scripts,I.pend,fun i x hx=>by
  rw[Deaf_other t (g:=i+1) (g':=0) (by omega) _ (fun op hop=>(ofEvents_mem hop).1)];exact I.quit i x hx,I.deep⟩
theorem top_up{g:Goroutine}{k:Cells}(hT:TopD dz P n0 w0 Φ g h)(d:Disj h.get k):TopD dz P n0 w0 Φ g (h.add k):=by
 intro sy ws w sl t I;refine hT sy ws w sl t ⟨?_,I.wk,I.scripts,I.pend,I.quit,I.deep⟩;have hc:∀ r x,h.get r=some x->cellsOf (h.add k) ws 0 r=some x:=fun r x hx=>Cells.add_left hx;have:=I.mem.turn (chans':=h.chans) (k:=h.get) (fun r m o hr=>I.mem.fits 0 r m o (hc r _ hr)) (fun r b o hr=>I.mem.whole 0 r b o (hc r _ hr)) ?_ ?_
 ·rw[cellsOf_main (h.add k) ws h.get h.chans h.pend h.todo]at this;exact this
 ·rintro⟨r,q⟩ b hb;refine⟨b,?_,id⟩;unfold holdsC at hb ⊢;by_cases e:0=0/\r∈h.chans
  ·rw[if_pos e]at hb;rw[if_pos (show 0=0/\r∈(h.add k).chans from e)];exact hb
  ·rw[if_neg e]at hb;rw[if_neg (show ¬ (0=0/\r∈(h.add k).chans) from e)];simp only[if_true]at hb;cases hx:h.get r with
   | none=>rw[hx]at hb;cases hb
   | some x=>rw[hx]at hb;rw[hc r x hx];exact hb
 ·intro c hc';refine⟨?_,fun i _=>I.mem.free c hc' i,I.mem.chan c hc'⟩;cases hx:h.get c with
  | none=>rfl
  | some x=>have:=hc c x hx;rw[I.mem.free c hc' 0]at this;cases this
theorem pending_append(ws:Crew)(x:Goroutine×LH):pending (ws++[x])=pending ws++cons' x.2.todo []:=by
 induction ws with
 | nil=>simp[pending]
 | cons a ws ih =>
  show cons' a.2.todo (pending (ws++[x]))=cons' a.2.todo (pending ws)++_;rw[ih];cases a.2.todo<;>rfl
theorem top_spawn{fr:Frame}{cs:List Frame}{F:Nat->Bool}{hc:Cells}{d:Deferred}{s:Script}(hsp:Spawns P fr cs d)(hhc:∀ r x,hc r=some x->x.1=false/\freezeC F h.get r=some x)(hne:s≠[])(hch:∀ y∈s,y.1∈h.chans)
 (hw:Wk P (G (baseOf P [d]) []) ⟨hc,[],[],s⟩)(hT:Top P n0 w0 Φ (G (fr.finish undef) cs) { h with get:=freezeC F h.get,pend:=h.pend++[s] }):Top P n0 w0 Φ (G fr cs) h:=by
 refine drive rfl fun sy ws w sl t I=>.inl ?_;refine⟨_,_,runT_crowd_spawn (crew_get0 (G fr cs) ws) (hsp.step w),?_⟩;have e0:MemOp.ofEvents 0 (G fr cs).frame.fn (G fr cs).frame.place #[]=#[]:=rfl;rw[e0,crew_size];have hcrew:((crew (G fr cs) ws).setIfInBounds 0 (G (fr.finish undef) cs)).push (G (baseOf P [d]) [])=crew (G (fr.finish undef) cs) (ws++[(G (baseOf P [d]) [],⟨hc,[],[],s⟩)]):=by
  rw[crew_set0];simp[crew]
 rw[hcrew];refine hT sy _ w sl _ ⟨?_,?_,?_,?_,?_,I.deep⟩
 ·have hm:=I.mem.spawn (hc:=hc) F hhc (x:={ g:=0,fn:=(G fr cs).frame.fn,pos:=(G fr cs).frame.place,act:=.go (ws.length+1) }) (y:={ g:=ws.length+1,fn:=(G (baseOf P [d]) []).frame.fn,pos:=(G fr cs).frame.place,act:=.start })
   ⟨rfl,rfl⟩ ⟨rfl,rfl⟩ I.deep (gone':=goneW (ws++[(G (baseOf P [d]) [],⟨hc,[],[],s⟩)])) (by
    intro i hi;cases i with
    | zero=>exact hi.elim
    | succ i =>
     obtain⟨x,hx,h0⟩:=hi;rcases Nat.lt_or_ge i ws.length with hlt|hge
     ·rw[List.getElem?_append_left hlt]at hx;exact⟨x,hx,h0⟩
     ·rw[List.getElem?_append_right hge]at hx;cases hi':i-ws.length with
      | zero=>rw[hi']at hx;simp at hx;subst hx;exact absurd h0 hne
      | succ n=>rw[hi']at hx;simp at hx)
   (fun i hi=>by
    cases i with
    | zero=>exact hi
    | succ i =>
     obtain⟨x,hx,h0⟩:=hi;have hlt:i<ws.length:=(List.getElem?_eq_some_iff.1 hx).1;exact⟨x,by rw[List.getElem?_append_left hlt];exact hx,h0⟩) (fun h=>h) (by
    rintro⟨x,hx,_⟩;rw[List.getElem?_eq_none (Nat.le_refl _)]at hx;cases hx)
  have hcells:(fun i=>if i=ws.length+1 then hc else if i=0 then freezeC F (cellsOf h ws 0) else cellsOf h ws i)=cellsOf { h with get:=freezeC F h.get,pend:=h.pend++[s] } (ws++[(G (baseOf P [d]) [],⟨hc,[],[],s⟩)]):=by
   funext i;cases i with
   | zero=>simp[cellsOf]
   | succ i =>
    rcases Nat.lt_trichotomy i ws.length with hlt|rfl|hgt
    ·simp[cellsOf,Nat.ne_of_lt hlt,List.getElem?_append_left hlt]
    ·simp[cellsOf]
    ·have h1:ws[i]?=none:=List.getElem?_eq_none (Nat.le_of_lt hgt);have h2:(ws++[(G (baseOf P [d]) [],(⟨hc,[],[],s⟩ : LH))])[i]?=none:=List.getElem?_eq_none (by simp;exact hgt);simp[cellsOf,Nat.ne_of_gt hgt,h1,h2]
  rw[hcells]at hm;rw[List.length_append];exact hm
 ·intro x hx;rcases List.mem_append.1 hx with hx|hx
  ·exact I.wk x hx
  ·simp at hx;subst hx;exact .inl hw
 ·intro x hx;rcases List.mem_append.1 hx with hx|hx
  ·exact I.scripts x hx
  ·simp at hx;subst hx;exact hch
 ·rw[pending_append];cases s with
  | nil=>exact absurd rfl hne
  | cons a s=>exact I.pend.append_right _
 ·intro i x hx;rw[Deaf_mute]
  ·rcases Nat.lt_or_ge i ws.length with hlt|hge
   ·rw[List.getElem?_append_left hlt]at hx;exact I.quit i x hx
   ·rw[List.getElem?_append_right hge]at hx;cases hi':i-ws.length with
    | zero =>
     rw[hi']at hx;simp at hx;subst hx;have e:i=ws.length:=by omega
     subst e;rw[I.mem.ti.hears (ws.length+1) (by
      rintro⟨x,hx,_⟩;rw[List.getElem?_eq_none (Nat.le_refl _)]at hx;cases hx),I.mem.dp0 _ (Nat.succ_ne_zero _)];rfl
    | succ n=>rw[hi']at hx;simp at hx
  ·intro op hop m;rcases Array.mem_push.1 hop with hop|rfl
   ·rcases Array.mem_push.1 hop with hop|rfl
    ·simp at hop
    ·exact nofun
   ·exact nofun
theorem top_open{g:Goroutine}{c s:Nat}(hs:h.get c=some (true,.chan 0 #[] false s s false))(hT:Top P n0 w0 Φ g { h with get:=dropC h.get c,chans:=c::h.chans }):Top P n0 w0 Φ g h:=by
 intro sy ws w sl t I;refine hT sy ws w sl t ⟨?_,I.wk,fun x hx y hy=>List.mem_cons_of_mem _ (I.scripts x hx y hy),I.pend,I.quit,I.deep⟩;have hd:∀ r x,dropC h.get c r=some x->r≠c/\h.get r=some x:=by
  intro r x hx;unfold dropC at hx;split at hx
  ·cases hx
  ·rename_i e;exact⟨e,hx⟩
 have:=I.mem.turn (chans':=c::h.chans) (k:=dropC h.get c) (fun r m o hr=>I.mem.fits 0 r m o (hd r _ hr).2) (fun r b o hr=>I.mem.whole 0 r b o (hd r _ hr).2) ?_ ?_
 ·rw[cellsOf_main h ws _ (c::h.chans) h.pend h.todo]at this;exact this
 ·rintro⟨r,q⟩ b hb;refine⟨b,?_,id⟩;unfold holdsC at hb ⊢;by_cases e:0=0/\r∈c::h.chans
  ·rw[if_pos e]at hb;cases hb;by_cases e':0=0/\r∈h.chans
   ·rw[if_pos e']
   ·rw[if_neg e'];have:r=c:=by
     rcases List.mem_cons.1 e.2 with h'|h'
     ·exact h'
     ·exact absurd ⟨rfl,h'⟩ e'
    subst this;show (h.get r).map _=_;rw[hs];rfl
  ·rw[if_neg e]at hb;have e':¬ (0=0/\r∈h.chans):=fun h'=>e ⟨rfl,List.mem_cons_of_mem _ h'.2⟩;rw[if_neg e'];change (dropC h.get c r).map (·.1)=some b at hb;cases hx:dropC h.get c r with
   | none=>rw[hx]at hb;cases hb
   | some x=>rw[hx]at hb;rw[show cellsOf h ws 0 r=some x from (hd r x hx).2];exact hb
 ·intro c' hc';rcases List.mem_cons.1 hc' with rfl|hc'
  ·refine⟨by simp[dropC],fun i hi=>I.mem.apart (Ne.symm hi) (show cellsOf h ws 0 c'=_ from hs),s,?_⟩;obtain⟨o',h1,h2⟩:=I.mem.fits 0 c' _ _ hs;cases h2;exact h1
  ·refine⟨?_,fun i _=>I.mem.free c' hc' i,I.mem.chan c' hc'⟩;unfold dropC;split
   ·rfl
   ·exact I.mem.free c' hc' 0
theorem top_close{g:Goroutine}{c:Nat}(hc:c∈h.chans)(hp:h.pend=[])(hT:h.get c=none->∀ s,Top P n0 w0 Φ g { h with get:=h.get.upd c (true,.chan 0 #[] false s s false),chans:=h.chans.filter (·≠c) }):Top P n0 w0 Φ g h:=by
 intro sy ws w sl t I;obtain⟨s,hs⟩:=I.mem.chan c hc;have hcn:h.get c=none:=I.mem.free c hc 0;have h0:∀ x∈ws,x.2.todo=[]:=by
  intro x hx;by_cases e:x.2.todo=[]
  ·exact e
  ·have:=I.pend.mem_iff.2 (pending_mem e hx);rw[hp]at this;cases this
 refine hT hcn s sy ws w sl t ⟨?_,I.wk,fun x hx y hy=>(by rw[h0 x hx]at hy;cases hy),I.pend,I.quit,I.deep⟩;have:=I.mem.turn (chans':=h.chans.filter (·≠c)) (k:=h.get.upd c (true,.chan 0 #[] false s s false)) ?_ ?_ ?_ ?_
 ·rw[cellsOf_main h ws _ (h.chans.filter (·≠c)) h.pend h.todo]at this;exact this
 ·intro r m o hr;by_cases e:r=c
  ·subst e;rw[Cells.upd_self]at hr;cases hr;exact⟨_,hs,rfl⟩
  ·rw[Cells.upd_ne _ _ e]at hr;exact I.mem.fits 0 r m o hr
 ·intro r m o hr;by_cases e:r=c
  ·subst e;rw[Cells.upd_self]at hr;cases hr;exact fun _=>id
  ·rw[Cells.upd_ne _ _ e]at hr;exact I.mem.whole 0 r m o hr
 ·rintro⟨r,q⟩ b hb;unfold holdsC at hb ⊢;by_cases e:r=c
  ·subst e;rw[if_pos ⟨rfl,hc⟩];exact⟨true,rfl,fun _=>rfl⟩
  ·refine⟨b,?_,id⟩;by_cases e':0=0/\r∈h.chans
   ·rw[if_pos e'];rw[if_pos ⟨rfl,List.mem_filter.2 ⟨e'.2,by simpa using e⟩⟩]at hb;exact hb
   ·rw[if_neg e'];rw[if_neg (fun h'=>e' ⟨rfl,(List.mem_filter.1 h'.2).1⟩)]at hb;simp only[if_true,Cells.upd_ne _ _ e]at hb;exact hb
 ·intro c' hc';obtain⟨h1,h2⟩:=List.mem_filter.1 hc';have hne:c'≠c:=by simpa using h2
  exact⟨by rw[Cells.upd_ne _ _ hne];exact I.mem.free c' h1 0,fun i _=>I.mem.free c' h1 i,I.mem.chan c' h1⟩
theorem top_closed(P:Program)(n0:Nat)(w0:World)(Φ:Value->World->Prop):Closed XT P true (Top P n0 w0 Φ) :=
 ⟨⟨fun _ _ _ _ hs hN=>top_step hs hN,fun _ _ _ hT d=>top_up hT d⟩,rfl,fun _ _ _ _ _ hr hs=>top_recv hr hs,fun _ _ _ _ _ _ _ a b c _ d e f=>top_spawn a b c d e f,fun _ _ _ _ _ a b=>top_open a b,fun _ _ _ a b c=>top_close a b c⟩
theorem runT_crowd_ended{gs:Array Goroutine}{i:Nat}{g:Goroutine}{o:Outcome}{w':World}{es:Array Event}(hi:gs[i]?=some g)(h:stepG P (i==0) g w=.ended o w' es) :
  runT P (crowd gs w sl) i=(.ended o w',MemOp.ofEvents i g.frame.fn g.frame.place es):=by
 obtain⟨hlt,rfl⟩:=Array.getElem?_eq_some_iff.1 hi;have hsw:=swapAt_of_lt hlt { (default:Goroutine) with status:=.finished };show runT P { world:=w,gs:=gs,rest:={ timers:=#[],alone:=none,slice:=sl } } i=_;unfold runT;simp only[hsw,h,GStep.es]
structure KeptW(n0:Nat)(w0 w:World):Prop where
 base:∀ r,r<n0->w.heap[r]?=w0.heap[r]?
 size:n0<=w.heap.size
 os:w.os=w0.os
 tape:w.tape=w0.tape
 output:w.output=w0.output
theorem top_ret{fr:Frame}{v:Value}(hr:Ret P .normal fr v h.get)(hin:P.inits.idxOf? fr.fn=none)(hp:h.pend=[])(hΦ:∀ w',Fits h.get w'->KeptW n0 w0 w'->Φ v w'):Top P n0 w0 Φ (G fr []) h:=by
 refine drive rfl fun sy ws w sl t I=>.inr ?_;obtain⟨r1,r2,r3,fn,r4,r5⟩:=hr;obtain⟨w',h',es',tr,hes,hq⟩:=lwp_sound P _ _ _ h.get w #[] (I.mem.fits 0) r5;rcases hq with⟨v',hrun,rfl,rfl⟩|⟨e,hrun,hE⟩
 ·rw[Array.empty_append]at hrun;have hrun1:((results fn fr.tmps).runT P w #[]).1=.ok v' w':=by rw[hrun]
  simp only[Sem.runT_fst]at hrun1;have hrun2:Sem.events P (results fn fr.tmps) w #[]=es':=by show ((results fn fr.tmps).runT P w #[]).2=es';rw[hrun]
  have hst:stepG P (0==0) (G fr []) w=.ended (.done v') w' (seen P fr.fn es'):=by
   simp[G,stepG,unwind,r1,r2,r4,hrun1,hrun2,GStep.after,doReturn,r3,hin]
  have hm:=I.mem.step (j:=0) I.mem.pos (fun e=>e) (G fr []).frame.fn (G fr []).frame.place tr (es:=seen P fr.fn es') (fun e he=>hes e (mem_seen he));exact⟨v',w',_,runT_crowd_ended (crew_get0 (G fr []) ws) hst,hΦ w' tr.fits ⟨hm.base,hm.size,hm.os,hm.tape,hm.output⟩,hp,⟨_,_,_,hm.ti⟩,fun i x hx=>by
   rw[Deaf_other t (g:=i+1) (g':=0) (by omega) _ (fun op hop=>(ofEvents_mem hop).1)];exact I.quit i x hx⟩
 ·exact hE.elim
theorem top_start{g:Goroutine}{get:Cells}{w0:World}(hF:Fits get w0)(hno:∀ r x,get r=some x->x.1=false)(hwh:∀ r b o,get r=some (b,o)->∀ i,¬ isHole o i)
 (hT:Top P w0.heap.size w0 Φ g ⟨get,[],[],[]⟩):EndsWell P Φ (solo g w0) #[]:=by
 have hnone:∀ g (k:Key),holdsC [] (cellsOf ⟨get,[],[],[]⟩ []) g k≠some true:=by
  rintro g ⟨r,q⟩ hh;unfold holdsC at hh;simp only[List.not_mem_nil,and_false,if_false]at hh;cases g with
  | zero =>
   cases hx:get r with
   | none=>simp[cellsOf,hx]at hh
   | some x =>
    simp[cellsOf,hx]at hh;have:=hno r x hx;rw[hh]at this;cases this
  | succ g=>simp[cellsOf]at hh
 have hnt:∀ p k b,¬ Touches (#[]:Trace) p k b:=by
  rintro p k b ⟨op,x,hp,_⟩;simp at hp
 let sy:Sy:=⟨fun _=>False,fun _ _=>False,fun _=>0⟩
 refine hT sy [] w0 none #[] ⟨⟨?_,?_,fun _ _=>rfl,⟨?_,?_,fun _ h=>h.elim,?_,?_,?_,?_,?_,?_,fun _ _ _ _ _ h=>h.elim,?_,fun _ _ h=>h.elim,?_,fun op hop=>by simp at hop⟩,?_,?_,?_,Nat.one_pos,fun _ _=>rfl,?_,Nat.le_refl _,rfl,rfl,rfl⟩,?_,?_,List.Perm.refl _,?_,rfl⟩
 ·intro j;cases j with
  | zero=>exact hF
  | succ j=>intro r m o hr;simp[cellsOf]at hr
 ·intro j r b o hr;cases j with
  | zero=>exact hwh r b o hr
  | succ j=>simp[cellsOf]at hr
 ·intro g _;rfl
 ·intro op hop;simp at hop
 ·intro p k b ht;exact absurd ht (hnt p k b)
 ·rintro g ⟨r,q⟩ b hb;refine⟨?_,fun h=>h⟩;unfold holdsC at hb;simp only[List.not_mem_nil,and_false,if_false]at hb;cases g with
  | zero =>
   cases hx:get r with
   | none=>simp[cellsOf,hx]at hb
   | some x=>exact Fits.lt hF hx
  | succ g=>simp[cellsOf]at hb
 ·intro g g' k _ hh;exact absurd hh (hnone g k)
 ·intro g k hh;exact absurd hh (hnone g k)
 ·intro g k b _ p ht;exact absurd ht (hnt p k true)
 ·intro i j k b b' _ _ ht;exact absurd ht (hnt i k b)
 ·intro p op x hp;simp at hp
 ·intro g _ p op hp;simp at hp
 ·intro c hc;cases hc
 ·intro c hc;cases hc
 ·intro j hj r;cases j with
  | zero=>exact absurd hj (Nat.not_le.2 Nat.one_pos)
  | succ j=>simp[cellsOf]
 ·intro j k hh;exact absurd hh (hnone j k)
 ·intro x hx;cases hx
 ·intro x hx;cases hx
 ·intro i x hx;simp at hx
theorem run_well{f:FuncId}{args:Array Value}{get:Cells}{w0:World}{Q:Value->LH->Prop}(hF:Fits get w0)(hno:∀ r x,get r=some x->x.1=false)(hwh:∀ r b o,get r=some (b,o)->∀ i,¬ isHole o i)(hin:P.inits.idxOf? f=none)
 (c:FWK XT P .normal f args ⟨get,[],[],[]⟩ Q)(hQ:∀ v h',Q v h'->h'.pend=[]/\∀ w',Fits h'.get w'->KeptW w0.heap.size w0 w'->Φ v w'):EndsWell P Φ (solo (G (Frame.enter P f args .normal) []) w0) #[]:=by
 have hT:Top P w0.heap.size w0 Φ (G (Frame.enter P f args .normal) []) ⟨get,[],[],[]⟩:=by
  refine c.2 true _ (top_closed P _ w0 Φ) [] trivial ?_;intro fr v h' k hfn d hr hq;obtain⟨hp,hΦ⟩:=hQ v h' hq;exact top_ret (h:=h'.add k) hr (by rw[hfn];exact hin) hp fun w' hf hk=>hΦ w' hf.left hk
 exact top_start hF hno hwh hT
end
section
def getW(W:World):Cells:=fun r=>match W.heap[r]? with
 | some (.pending _ _)=>none
 | some o=>some (false,o)
 | none=>none
theorem getW_inv{W:World}{r:Nat}{m:Bool}{o:Obj}(h:getW W r=some (m,o)):m=false/\W.heap[r]?=some o/\∀ c e,o≠.pending c e:=by
 unfold getW at h;split at h
 ·cases h
 ·rename_i o' hn he;cases h;exact⟨rfl,he,fun c e hp=>hn c e hp⟩
 ·cases h
theorem getW_fits(W:World):Fits (getW W) W:=by
 intro r m o h;obtain⟨_,h1,h2⟩:=getW_inv h;refine⟨o,h1,?_⟩;cases o with
 | pending c e=>exact absurd rfl (h2 c e)
 | _=>exact rfl
theorem getW_no(W:World):∀ r x,getW W r=some x->x.1=false:=by
 rintro r ⟨m,o⟩ h;exact(getW_inv h).1
theorem getW_whole(W:World):∀ r b o,getW W r=some (b,o)->∀ i,¬ isHole o i:=by
 intro r b o h i;have h2:=(getW_inv h).2.2;cases o with
 | pending c e=>exact absurd rfl (h2 c e)
 | _=>exact id
theorem getW_of{W:World}{r:Nat}{c:Array Value}{e:TypeId}{f:Nat×Nat}(h:W.heap[r]?=some (.cells c e f)):getW W r=some (false,.cells c e f):=by
 unfold getW;rw[h]
theorem getW_cell{W:World}{a:Addr}{v:Value}(h:W.cell? a=some v):(getW W).cell? a=some v:=by
 unfold World.cell? at h;split at h
 ·rename_i c t f he;unfold Cells.cell?;rw[getW_of he];exact h
 ·cases h
theorem mapM_at{α:Type}{f:Nat->Option α}:∀ {l:List Nat} {r:List α},l.mapM f=some r->r.length=l.length/\∀ (i:Nat) y,r[i]?=some y->∃ j,l[i]?=some j/\f j=some y:=by
 intro l
 induction l with
 | nil=>intro r h;simp at h;subst h;exact⟨rfl,fun i y hy=>by simp at hy⟩
 | cons a asq ih =>
  intro r h;rw[List.mapM_cons]at h;cases ha:f a with
  | none=>simp[ha]at h
  | some b =>
   cases has:asq.mapM f with
   | none=>simp[ha,has]at h
   | some bs =>
    simp[ha,has]at h;subst h;obtain⟨h1,h2⟩:=ih has;refine⟨by simp[h1],fun i y hy=>?_⟩;cases i with
    | zero=>simp at hy;subst hy;exact⟨a,rfl,ha⟩
    | succ i=>obtain⟨j,hj⟩:=h2 i y (by simpa using hy);exact⟨j,by simpa using hj.1,hj.2⟩
theorem cells_at{W:World}{base n:Nat}{a:Addr}{cs:List Value}(h:W.cells? base a n=some cs):cs.length=n/\∀ (i:Nat) v,cs[i]?=some v->(getW W).cell? (a.add i)=some v:=by
 unfold World.cells? at h;split at h
 ·obtain⟨h1,h2⟩:=mapM_at h;refine⟨by simpa using h1,fun i v hv=>?_⟩;obtain⟨j,hj,hc⟩:=h2 i v hv;have:j=i:=by
   have:=List.getElem?_eq_some_iff.1 hj;obtain⟨_,e⟩:=this;simpa using e.symm
  rw[this]at hc;exact getW_cell hc
 ·cases h
section
variable {H:Type} {enc:TypeId×Value->H} {P:Program} {W:World} {base:Nat} {sp:Nat->Bool} {held:Bool} {fuel:Nat} {t:TypeId} {cs:List Value} {x:DataW H×List MemPlace}
def Light(P:Program)(t:TypeId)(d:DataW H):Prop:=∀ n∈d.weights P t,n<=reachBytes
theorem weightsAll_mem{e:TypeId}:∀ {l:List (DataW H)} {d:DataW H},d∈l->∀ n∈d.weights P e,n∈DataW.weightsAll P e l
 | d0::l,d,hd,n,hn=>by
  simp only[DataW.weightsAll,List.mem_append];rcases List.mem_cons.1 hd with rfl|hd
  ·exact .inl hn
  ·exact .inr (weightsAll_mem hd n hn)
def FieldsAre(P:Program)(t:TypeId)(l:List (TypeId×Nat)):Prop:=∃ fs,P.underlying t=some (.struct fs)/\fs.toList.map (fun f=>(f.type,f.offset))=l
theorem field_of{l:List (TypeId×Nat)}(hf:FieldsAre P t l)(hz:Light P t x.1)(h:DataW.trod enc P W base sp held fuel t cs=some x) :
  cs.length=P.cellsOf t/\∃ n:Nat,∀ (i:Nat) (ti:TypeId) (oi:Nat),l[i]?=some (ti,oi)->∃ y,DataW.trod enc P W base sp held n ti ((cs.drop oi).take (P.cellsOf ti))=some y/\Light P ti y.1:=by
 obtain⟨fs,hu,rfl⟩:=hf;obtain⟨xs,n,_,rfl,hl,hx,hall⟩:=DataW.trod_struct hu h;refine⟨hl,n,fun i ti oi hi=>?_⟩;rw[List.getElem?_map]at hi;cases hfi:fs.toList[i]? with
 | none=>simp[hfi]at hi
 | some f =>
  simp[hfi]at hi;obtain⟨rfl,rfl⟩:=hi;have hfi':fs[i]?=some f:=by simpa using hfi
  have hlt:i<xs.length:=by rw[hx];exact(Array.getElem?_eq_some_iff.1 hfi').1
  refine⟨xs[i],by rw[hall i f hfi',List.getElem?_eq_getElem hlt],fun k hk=>hz k ?_⟩;unfold DataW.weights;rw[hu];exact DataW.weights_mem_each (j:=i) (t:=f.type) (d:=xs[i].1) (by simp[hfi]) (by simp[List.getElem?_eq_getElem hlt]) k hk
theorem sl_of_trod{α:Type}{E:Cells->Addr->α->Prop}{e:TypeId}{k:Nat}(ht:P.underlying t=some (.slice e))(hk:P.cellsOf e=k)(hbt:0<P.bytesOf e)(hz:Light P t x.1)
 (hE:∀ (n:Nat) (a:Addr) cs y,cs.length=k->(∀ (i:Nat) v,cs[i]?=some v->(getW W).cell? (a.add i)=some v)->DataW.trod enc P W base sp held n e cs=some y->Light P e y.1->∃ z,E (getW W) a z)
 (h:DataW.trod enc P W base sp held fuel t cs=some x):∃ p n c l,cs=[.slice p n c]/\Sl E k (getW W) p n l:=by
 rcases DataW.trod_slice ht h with⟨rfl,_⟩|⟨a,len,cap,elems,rest,n,_,rfl,rfl,_,hl,hm,hlen,hel,_⟩
 ·exact⟨none,0,0,[],rfl,Sl.nil⟩
 ·have hbig:len<4611686018427387904:=by
   have:=hz ((elems.length+rest.length)*P.bytesOf e) (by simp[DataW.weights,ht]);have h2:elems.length<=(elems.length+rest.length)*P.bytesOf e:=Nat.le_trans (Nat.le_add_right _ _) (Nat.le_mul_of_pos_right _ hbt);simp only[reachBytes]at this;omega
  have key:∀ i:Fin len,∃ z,E (getW W) (a.add (i.1*k)) z:=by
   rintro⟨i,hi⟩;have h1:=hel i hi;rw[List.getElem?_eq_getElem (by omega:i<elems.length)]at h1;obtain⟨cs',hc,hy⟩:=Option.bind_eq_some_iff.1 h1;obtain⟨c1,c2⟩:=cells_at hc;rw[hk]at c1 c2;refine hE _ _ _ _ c1 c2 hy fun k hk'=>hz k ?_;simp only[DataW.weights,ht,List.mem_cons,List.mem_append];exact .inr (.inl (weightsAll_mem (List.mem_map.2 ⟨_,List.getElem_mem _,rfl⟩) k hk'))
  have hch:=Classical.axiomOfChoice key;obtain⟨g,hg⟩:=hch;refine⟨some a,len,cap,List.ofFn g,rfl,by simp,?_,fun i z hz=>⟨a,rfl,?_⟩⟩
  ·simpa using hbig
  ·rw[List.getElem?_ofFn]at hz;split at hz
   ·rename_i hi;cases hz;exact hg ⟨i,hi⟩
   ·cases hz
variable {tI tIs tSpan tSpans tPaper tPapers tReq tReqs tFile:TypeId}
theorem agg_of{cs:Array Value}{l:List Value}(h:(Value.agg cs).cells.toList=l):Value.agg cs=.agg l.toArray:=by
 have e:cs.toList=l:=h;rw[<- e]
def U16E(h:Cells)(a:Addr)(n:Int):Prop:=h.cell? (a.add 0)=some (.int .u16 n)/\0<=n/\n<=65535
theorem U16E.grow:Grow U16E:=fun _ _ _ _ hl h=>⟨hl _ _ h.1,h.2⟩
theorem u16s_arg{t e:TypeId}(ht:P.underlying t=some (.slice e))(he:P.underlying e=some (.int .u16))(h1:P.cellsOf e=1)(hb:0<P.bytesOf e){r:Reach}{b0:Nat}{v:Value}{d:DataW H}{ps:List MemPlace}
 (hv:Value.okWide P W r b0 t v)(hz:Light P t d)(h:DataW.Trod enc P W base sp held t v d ps):∃ p n c l,v=.slice p n c/\Sl U16E 1 (getW W) p n l:=by
 obtain⟨a,len,cap,rfl⟩:=WideShapes.okWide_slice ht hv;obtain⟨fuel,hf⟩:=h;obtain⟨p,n,c,l,e,s⟩:=sl_of_trod (E:=U16E) ht h1 hb hz (by
  intro n a cs y _ hc hy _;obtain⟨z,rfl,_,hw⟩:=DataW.trod_int he hy;exact⟨z,hc 0 _ rfl,by simpa[Lit.wf,IntKind.min,IntKind.max,IntKind.signed,IntKind.bits] using hw⟩) hf
 have e':[Value.slice a len cap]=[.slice p n c]:=e;simp at e';obtain⟨rfl,rfl,rfl⟩:=e';exact⟨_,_,_,l,rfl,s⟩
end
theorem KeptW.below{w0 w:World}(k:KeptW w0.heap.size w0 w):Go.RowKit.Below w0.heap.size w0 w:=⟨k.os,k.tape,k.output,k.size,k.base⟩
end
end Go.TM
