/- Contracts and laws for the proof, joined by a program. No condition. -/
import Derived.Test.YtpkjbclajflhbaaGreatDoorM2
set_option linter.all false
noncomputable section
open Go Go.Conc Go.TM Go.Proofs
open Go.IntKind (wrap)
namespace Go.TM
section
variable {P:Program} {Φ:Value->World->Prop} {sy:Sy} {n0:Nat} {w0:World} {h:LH} {ws:Crew} {w:World} {t:Trace} {sl:Option (Nat×Nat)} {dz:Nat}
def dropC(h:Cells)(c:Nat):Cells:=fun r=>if r=c then none else h r
structure Spawns(P:Program)(fr:Frame)(cs:List Frame)(d:Deferred):Prop where
 step:∀ w,stepG P true (G fr cs) w=.spawn (G (fr.finish undef) cs) (G (baseOf P [d]) []) w #[]
def XT:XP where
 cond P main R:=main=true /\
  (∀ fr cs cases shape h,Receives P fr cs cases shape h->Served R fr cs cases shape h->R (G fr cs) h) /\
  (∀ fr cs h F hc d s,Spawns P fr cs d->(∀ r x,hc r=some x->x.1=false/\freezeC F h.get r=some x)->s≠[]->[]∉h.pend->(∀ y∈s,y.1∈h.chans)->Wk P (G (baseOf P [d]) []) ⟨hc,[],[],s⟩ ->
   R (G (fr.finish undef) cs) { h with get:=freezeC F h.get,pend:=h.pend++[s] }->R (G fr cs) h) /\
  (∀ g h c s,[]∉h.pend->h.get c=some (true,.chan 0 #[] false s s false)->R g { h with get:=dropC h.get c,chans:=c::h.chans }->R g h) /\
  (∀ g h c,c∈h.chans->h.pend=[]->(h.get c=none->∀ s,R g { h with get:=h.get.upd c (true,.chan 0 #[] false s s false),chans:=h.chans.filter (·≠c) })->R g h)
 stk _ _ _:=True
variable {fr:Frame}{cs:List Frame}{c:Nat}{get:Cells}
theorem W0(F:Nat->Bool)(a k:Cells):freezeC (fun r=>F r&&(a r).isSome) (a.add k)=(freezeC F a).add k:=by
 funext r;cases b:a r with
 | some x=>simp[freezeC,Cells.add,b]
 | none =>
  cases c:k r with
  | none=>simp[freezeC,Cells.add,b,c]
  | some x=>simp[freezeC,Cells.add,b,c]
theorem XT_ok:XOK XT where
 frame P main R k _ hc:=by
  obtain⟨h0,H,I,J,K⟩:=hc;refine⟨h0,?_,?_,?_,?_⟩
  ·intro fr cs cases shape h hr q d;refine H fr cs cases shape (h.add k) ⟨hr.step,hr.recv,hr.some_,hr.heads⟩ ?_;intro pre φ s post j c v hv z A i G p D;have d1:Disj h.get hv:=G.of_add_left;have d2:Disj k hv:=Q2 d G;have e:((h.get.add hv).add k)=((h.get.add k).add hv):=Q7 d2.symm;have:=q pre φ s post j c v hv z A i d1 p D (Disj.add d d2.symm);unfold LH.add at this;simp only[e]at this;exact this
  ·intro fr cs h F hc d s B f y m u hw o n;refine I fr cs (h.add k) (fun r=>F r&&(h.get r).isSome) hc d s B ?_ y m u hw ?_
   ·intro r x C;obtain⟨a,b⟩:=f r x C;refine⟨a,?_⟩;show freezeC _ (h.get.add k) r=_;rw[W0];exact Qn b
   ·have e:freezeC (fun r=>F r&&(h.get r).isSome) (h.add k).get=(freezeC F h.get).add k:=W0 F h.get k;rw[e];refine o ?_;intro r;rcases n r with hr|hr
    ·left;simp only[freezeC,hr]
    ·exact .inr hr
  ·intro g h c s m q o n;refine J g (h.add k) c s m (Qn q) ?_;have L:k c=none:=by
    rcases n c with h'|h'
    ·rw[q]at h';cases h'
    ·exact h'
   have e:dropC (h.get.add k) c=(dropC h.get c).add k:=by
    funext r;unfold dropC Cells.add;by_cases e:r=c
    ·subst e;simp[L]
    ·simp[e]
   have t:Disj (dropC h.get c) k:=by
    intro r;rcases n r with hr|hr
    ·left;unfold dropC;split
     ·rfl
     ·exact hr
    ·exact .inr hr
   have:=o t;unfold LH.add at this ⊢;simp only[e];exact this
  ·intro g h c hc A o n;refine K g (h.add k) c hc A ?_;intro l s;have f:h.get c=none:=by
    cases C:h.get c with
    | none=>rfl
    | some x=>rw[show (h.add k).get c=some x from Qn C]at l;cases l
   have w:k c=none:=by
    have:=l;rw[show (h.add k).get c=k c from Qw f]at this;exact this
   have e:(h.get.add k).upd c (true,.chan 0 #[] false s s false)=(h.get.upd c (true,.chan 0 #[] false s s false)).add k:=by
    funext r;unfold Cells.upd Cells.add;by_cases e:r=c<;>simp[e]
   have t:Disj (h.get.upd c (true,.chan 0 #[] false s s false)) k:=by
    intro r;by_cases e:r=c
    ·right;rw[e];exact w
    ·rw[Qp _ _ e];exact n r
   have:=o f s t;unfold LH.add at this ⊢;simp only[e];exact this
 stk P cs:=trivial
/-! ### E move of M first goroutine -/
theorem K8(h:LH)(ws:Crew)(k:Cells)(c:List Nat)(p:List Script)(s:Script):(fun i=>if i=0 then k else cellsOf h ws i)=cellsOf ⟨k,c,p,s⟩ ws:=by
 funext i;cases i<;>simp[cellsOf]
theorem top_step{N:Goroutine->LH->Prop}(k:LStep P true (G fr cs) h N)(c:∀ g' h',N g' h'->TopD dz P n0 w0 Φ g' h'):TopD dz P n0 w0 Φ (G fr cs) h:=by
 refine drive rfl fun sy ws w sl t I=>.inl ?_;obtain⟨g',w',es,h',hgo,m,a,d⟩:=k w (I.mem.fits 0);have hm:=I.mem.step (j:=0) I.mem.pos (fun e=>e) (G fr cs).frame.fn (G fr cs).frame.place m a;rw[K8 h ws h' h.chans h.pend h.todo]at hm;refine⟨_,_,runT_crowd_go (J2 (G fr cs) ws) hgo,?_⟩;have f:OpenAt h w':=hm.chan;rw[H9 I.wk I.scripts f (by unfold woken;split;exact again_running _ (.inl rfl);rfl),Gj];exact c g' { h with get:=h' } d _ ws w' sl _ ⟨hm,I.wk,I.scripts,I.pend,fun i x l=>by
  rw[Deaf_other t (g:=i+1) (g':=0) (by omega) _ (fun op b=>(Jp b).1)];exact I.quit i x l,I.deep⟩
theorem top_up{g:Goroutine}{k:Cells}(j:TopD dz P n0 w0 Φ g h)(d:Disj h.get k):TopD dz P n0 w0 Φ g (h.add k):=by
 intro sy ws w sl t I;refine j sy ws w sl t ⟨?_,I.wk,I.scripts,I.pend,I.quit,I.deep⟩;have hc:∀ r x,h.get r=some x->cellsOf (h.add k) ws 0 r=some x:=fun r x f=>Qn f;have:=I.mem.turn (chans':=h.chans) (k:=h.get) (fun r m o hr=>I.mem.fits 0 r m o (hc r _ hr)) (fun r b o hr=>I.mem.whole 0 r b o (hc r _ hr)) ?_ ?_
 ·rw[K8 (h.add k) ws h.get h.chans h.pend h.todo]at this;exact this
 ·rintro⟨r,q⟩ b hb;refine⟨b,?_,id⟩;unfold holdsC at hb ⊢;by_cases e:0=0/\r∈h.chans
  ·rw[if_pos e]at hb;rw[if_pos (show 0=0/\r∈(h.add k).chans from e)];exact hb
  ·rw[if_neg e]at hb;rw[if_neg (show ¬ (0=0/\r∈(h.add k).chans) from e)];simp only[if_true]at hb;cases f:h.get r with
   | none=>rw[f]at hb;cases hb
   | some x=>rw[f]at hb;rw[hc r x f];exact hb
 ·intro c a;refine⟨?_,fun i _=>I.mem.free c a i,I.mem.chan c a⟩;cases f:h.get c with
  | none=>rfl
  | some x=>have:=hc c x f;rw[I.mem.free c a 0]at this;cases this
theorem pending_append(ws:Crew)(x:Goroutine×LH):pending (ws++[x])=pending ws++cons' x.2.todo []:=by
 induction ws with
 | nil=>simp[pending]
 | cons a ws b =>
  show cons' a.2.todo (pending (ws++[x]))=cons' a.2.todo (pending ws)++_;rw[b];cases a.2.todo<;>rfl
theorem top_spawn{F:Nat->Bool}{hc:Cells}{d:Deferred}{s:Script}(A:Spawns P fr cs d)(z:∀ r x,hc r=some x->x.1=false/\freezeC F h.get r=some x)(u:s≠[])(v:∀ y∈s,y.1∈h.chans)
 (hw:Wk P (G (baseOf P [d]) []) ⟨hc,[],[],s⟩)(E:Top P n0 w0 Φ (G (fr.finish undef) cs) { h with get:=freezeC F h.get,pend:=h.pend++[s] }):Top P n0 w0 Φ (G fr cs) h:=by
 refine drive rfl fun sy ws w sl t I=>.inl ?_;refine⟨_,_,runT_crowd_spawn (J2 (G fr cs) ws) (A.step w),?_⟩;have B:MemOp.ofEvents 0 (G fr cs).frame.fn (G fr cs).frame.place #[]=#[]:=rfl;rw[B,crew_size];have l:((crew (G fr cs) ws).setIfInBounds 0 (G (fr.finish undef) cs)).push (G (baseOf P [d]) [])=crew (G (fr.finish undef) cs) (ws++[(G (baseOf P [d]) [],⟨hc,[],[],s⟩)]):=by
  rw[Gj];simp[crew]
 rw[l];refine E sy _ w sl _ ⟨?_,?_,?_,?_,?_,I.deep⟩
 ·have hm:=I.mem.spawn (hc:=hc) F z (x:={ g:=0,fn:=(G fr cs).frame.fn,pos:=(G fr cs).frame.place,act:=.go (ws.length+1) }) (y:={ g:=ws.length+1,fn:=(G (baseOf P [d]) []).frame.fn,pos:=(G fr cs).frame.place,act:=.start })
   ⟨rfl,rfl⟩ ⟨rfl,rfl⟩ I.deep (gone':=goneW (ws++[(G (baseOf P [d]) [],⟨hc,[],[],s⟩)])) (by
    intro i q;cases i with
    | zero=>exact q.elim
    | succ i =>
     obtain⟨x,b,h0⟩:=q;rcases Nat.lt_or_ge i ws.length with c|o
     ·rw[List.getElem?_append_left c]at b;exact⟨x,b,h0⟩
     ·rw[List.getElem?_append_right o]at b;cases f:i-ws.length with
      | zero=>rw[f]at b;simp at b;subst b;exact absurd h0 u
      | succ n=>rw[f]at b;simp at b)
   (fun i q=>by
    cases i with
    | zero=>exact q
    | succ i =>
     obtain⟨x,b,h0⟩:=q;have c:i<ws.length:=(List.getElem?_eq_some_iff.1 b).1;exact⟨x,by rw[List.getElem?_append_left c];exact b,h0⟩) (fun h=>h) (by
    rintro⟨x,b,_⟩;rw[List.getElem?_eq_none (Nat.le_refl _)]at b;cases b)
  have k:(fun i=>if i=ws.length+1 then hc else if i=0 then freezeC F (cellsOf h ws 0) else cellsOf h ws i)=cellsOf { h with get:=freezeC F h.get,pend:=h.pend++[s] } (ws++[(G (baseOf P [d]) [],⟨hc,[],[],s⟩)]):=by
   funext i;cases i with
   | zero=>simp[cellsOf]
   | succ i =>
    rcases Nat.lt_trichotomy i ws.length with c|rfl|p
    ·simp[cellsOf,Nat.ne_of_lt c,List.getElem?_append_left c]
    ·simp[cellsOf]
    ·have C:ws[i]?=none:=List.getElem?_eq_none (Nat.le_of_lt p);have D:(ws++[(G (baseOf P [d]) [],(⟨hc,[],[],s⟩ : LH))])[i]?=none:=List.getElem?_eq_none (by simp;exact p);simp[cellsOf,Nat.ne_of_gt p,C,D]
  rw[k]at hm;rw[List.length_append];exact hm
 ·intro x b;rcases List.mem_append.1 b with b|b
  ·exact I.wk x b
  ·simp at b;subst b;exact .inl hw
 ·intro x b;rcases List.mem_append.1 b with b|b
  ·exact I.scripts x b
  ·simp at b;subst b;exact v
 ·rw[pending_append];cases s with
  | nil=>exact absurd rfl u
  | cons a s=>exact I.pend.append_right _
 ·intro i x b;rw[Uj]
  ·rcases Nat.lt_or_ge i ws.length with c|o
   ·rw[List.getElem?_append_left c]at b;exact I.quit i x b
   ·rw[List.getElem?_append_right o]at b;cases f:i-ws.length with
    | zero =>
     rw[f]at b;simp at b;subst b;have e:i=ws.length:=by omega
     subst e;rw[I.mem.ti.hears (ws.length+1) (by
      rintro⟨x,b,_⟩;rw[List.getElem?_eq_none (Nat.le_refl _)]at b;cases b),I.mem.dp0 _ (Nat.succ_ne_zero _)];rfl
    | succ n=>rw[f]at b;simp at b
  ·intro op j m;rcases Array.mem_push.1 j with j|rfl
   ·rcases Array.mem_push.1 j with j|rfl
    ·simp at j
    ·exact nofun
   ·exact nofun
theorem top_open{g:Goroutine}{s:Nat}(n:h.get c=some (true,.chan 0 #[] false s s false))(v:Top P n0 w0 Φ g { h with get:=dropC h.get c,chans:=c::h.chans }):Top P n0 w0 Φ g h:=by
 intro sy ws w sl t I;refine v sy ws w sl t ⟨?_,I.wk,fun x d y A=>List.mem_cons_of_mem _ (I.scripts x d y A),I.pend,I.quit,I.deep⟩;have l:∀ r x,dropC h.get c r=some x->r≠c/\h.get r=some x:=by
  intro r x d;unfold dropC at d;split at d
  ·cases d
  ·rename_i e;exact⟨e,d⟩
 have:=I.mem.turn (chans':=c::h.chans) (k:=dropC h.get c) (fun r m o hr=>I.mem.fits 0 r m o (l r _ hr).2) (fun r b o hr=>I.mem.whole 0 r b o (l r _ hr).2) ?_ ?_
 ·rw[K8 h ws _ (c::h.chans) h.pend h.todo]at this;exact this
 ·rintro⟨r,q⟩ b hb;refine⟨b,?_,id⟩;unfold holdsC at hb ⊢;by_cases e:0=0/\r∈c::h.chans
  ·rw[if_pos e]at hb;cases hb;by_cases j:0=0/\r∈h.chans
   ·rw[if_pos j]
   ·rw[if_neg j];have:r=c:=by
     rcases List.mem_cons.1 e.2 with h'|h'
     ·exact h'
     ·exact absurd ⟨rfl,h'⟩ j
    subst this;show (h.get r).map _=_;rw[n];rfl
  ·rw[if_neg e]at hb;have j:¬ (0=0/\r∈h.chans):=fun h'=>e ⟨rfl,List.mem_cons_of_mem _ h'.2⟩;rw[if_neg j];change (dropC h.get c r).map (·.1)=some b at hb;cases d:dropC h.get c r with
   | none=>rw[d]at hb;cases hb
   | some x=>rw[d]at hb;rw[show cellsOf h ws 0 r=some x from (l r x d).2];exact hb
 ·intro f a;rcases List.mem_cons.1 a with rfl|a
  ·refine⟨by simp[dropC],fun i z=>I.mem.apart (Ne.symm z) (show cellsOf h ws 0 f=_ from n),s,?_⟩;obtain⟨B,p,u⟩:=I.mem.fits 0 f _ _ n;cases u;exact p
  ·refine⟨?_,fun i _=>I.mem.free f a i,I.mem.chan f a⟩;unfold dropC;split
   ·rfl
   ·exact I.mem.free f a 0
theorem top_close{g:Goroutine}(hc:c∈h.chans)(A:h.pend=[])(z:h.get c=none->∀ s,Top P n0 w0 Φ g { h with get:=h.get.upd c (true,.chan 0 #[] false s s false),chans:=h.chans.filter (·≠c) }):Top P n0 w0 Φ g h:=by
 intro sy ws w sl t I;obtain⟨s,B⟩:=I.mem.chan c hc;have l:h.get c=none:=I.mem.free c hc 0;have h0:∀ x∈ws,x.2.todo=[]:=by
  intro x p;by_cases e:x.2.todo=[]
  ·exact e
  ·have:=I.pend.mem_iff.2 (Kt e p);rw[A]at this;cases this
 refine z l s sy ws w sl t ⟨?_,I.wk,fun x p y u=>(by rw[h0 x p]at u;cases u),I.pend,I.quit,I.deep⟩;have:=I.mem.turn (chans':=h.chans.filter (·≠c)) (k:=h.get.upd c (true,.chan 0 #[] false s s false)) ?_ ?_ ?_ ?_
 ·rw[K8 h ws _ (h.chans.filter (·≠c)) h.pend h.todo]at this;exact this
 ·intro r m o hr;by_cases e:r=c
  ·subst e;rw[Qm]at hr;cases hr;exact⟨_,B,rfl⟩
  ·rw[Qp _ _ e]at hr;exact I.mem.fits 0 r m o hr
 ·intro r m o hr;by_cases e:r=c
  ·subst e;rw[Qm]at hr;cases hr;exact fun _=>id
  ·rw[Qp _ _ e]at hr;exact I.mem.whole 0 r m o hr
 ·rintro⟨r,q⟩ b hb;unfold holdsC at hb ⊢;by_cases e:r=c
  ·subst e;rw[if_pos ⟨rfl,hc⟩];exact⟨true,rfl,fun _=>rfl⟩
  ·refine⟨b,?_,id⟩;by_cases d:0=0/\r∈h.chans
   ·rw[if_pos d];rw[if_pos ⟨rfl,List.mem_filter.2 ⟨d.2,by simpa using e⟩⟩]at hb;exact hb
   ·rw[if_neg d];rw[if_neg (fun h'=>d ⟨rfl,(List.mem_filter.1 h'.2).1⟩)]at hb;simp only[if_true,Qp _ _ e]at hb;exact hb
 ·intro a j;obtain⟨f,v⟩:=List.mem_filter.1 j;have n:a≠c:=by simpa using v
  exact⟨by rw[Qp _ _ n];exact I.mem.free a f 0,fun i _=>I.mem.free a f i,I.mem.chan a f⟩
theorem top_closed(P:Program)(n0:Nat)(w0:World)(Φ:Value->World->Prop):Closed XT P true (Top P n0 w0 Φ) :=
 ⟨⟨fun _ _ _ _ g h=>top_step g h,fun _ _ _ i d=>top_up i d⟩,rfl,fun _ _ _ _ _ hr g=>top_recv hr g,fun _ _ _ _ _ _ _ a b c _ d e f=>top_spawn a b c d e f,fun _ _ _ _ _ a b=>top_open a b,fun _ _ _ a b c=>top_close a b c⟩
theorem runT_crowd_ended{gs:Array Goroutine}{i:Nat}{g:Goroutine}{o:Outcome}{w':World}{es:Array Event}(c:gs[i]?=some g)(h:stepG P (i==0) g w=.ended o w' es) :
  runT P (crowd gs w sl) i=(.ended o w',MemOp.ofEvents i g.frame.fn g.frame.place es):=by
 obtain⟨a,rfl⟩:=Array.getElem?_eq_some_iff.1 c;have b:=swapAt_of_lt a { (default:Goroutine) with status:=.finished };show runT P { world:=w,gs:=gs,rest:={ timers:=#[],alone:=none,slice:=sl } } i=_;unfold runT;simp only[b,h,GStep.es]
structure KeptW(n0:Nat)(w0 w:World):Prop where
 base:∀ r,r<n0->w.heap[r]?=w0.heap[r]?
 size:n0<=w.heap.size
 os:w.os=w0.os
 tape:w.tape=w0.tape
 output:w.output=w0.output
theorem top_ret{v:Value}(hr:Ret P .normal fr v h.get)(f:P.inits.idxOf? fr.fn=none)(q:h.pend=[])(m:∀ w',Fits h.get w'->KeptW n0 w0 w'->Φ v w'):Top P n0 w0 Φ (G fr []) h:=by
 refine drive rfl fun sy ws w sl t I=>.inr ?_;obtain⟨u,y,z,fn,A,B⟩:=hr;obtain⟨w',h',es',o,d,r⟩:=Z5 P _ _ _ h.get w #[] (I.mem.fits 0) B;rcases r with⟨n,a,rfl,rfl⟩|⟨e,a,p⟩
 ·rw[Array.empty_append]at a;have b:((results fn fr.tmps).runT P w #[]).1=.ok n w':=by rw[a]
  simp only[Sem.runT_fst]at b;have c:Sem.events P (results fn fr.tmps) w #[]=es':=by show ((results fn fr.tmps).runT P w #[]).2=es';rw[a]
  have l:stepG P (0==0) (G fr []) w=.ended (.done n) w' (seen P fr.fn es'):=by
   simp[G,stepG,unwind,u,y,A,b,c,GStep.after,doReturn,z,f]
  have hm:=I.mem.step (j:=0) I.mem.pos (fun e=>e) (G fr []).frame.fn (G fr []).frame.place o (es:=seen P fr.fn es') (fun e he=>d e (Ku he));exact⟨n,w',_,runT_crowd_ended (J2 (G fr []) ws) l,m w' o.fits ⟨hm.base,hm.size,hm.os,hm.tape,hm.output⟩,q,⟨_,_,_,hm.ti⟩,fun i x s=>by
   rw[Deaf_other t (g:=i+1) (g':=0) (by omega) _ (fun op k=>(Jp k).1)];exact I.quit i x s⟩
 ·exact p.elim
theorem top_start{g:Goroutine}{w0:World}(v:Fits get w0)(t:∀ r x,get r=some x->x.1=false)(u:∀ r b o,get r=some (b,o)->∀ i,¬ isHole o i)
 (w:Top P w0.heap.size w0 Φ g ⟨get,[],[],[]⟩):EndsWell P Φ (solo g w0) #[]:=by
 have a:∀ g (k:Key),holdsC [] (cellsOf ⟨get,[],[],[]⟩ []) g k≠some true:=by
  rintro g ⟨r,q⟩ d;unfold holdsC at d;simp only[List.not_mem_nil,and_false,if_false]at d;cases g with
  | zero =>
   cases e:get r with
   | none=>simp[cellsOf,e]at d
   | some x =>
    simp[cellsOf,e]at d;have:=t r x e;rw[d]at this;cases this
  | succ g=>simp[cellsOf]at d
 have f:∀ p k b,¬ Touches (#[]:Trace) p k b:=by
  rintro p k b ⟨op,x,n,_⟩;simp at n
 let sy:Sy:=⟨fun _=>False,fun _ _=>False,fun _=>0⟩
 refine w sy [] w0 none #[] ⟨⟨?_,?_,fun _ _=>rfl,⟨?_,?_,fun _ h=>h.elim,?_,?_,?_,?_,?_,?_,fun _ _ _ _ _ h=>h.elim,?_,fun _ _ h=>h.elim,?_,fun op l=>by simp at l⟩,?_,?_,?_,Nat.one_pos,fun _ _=>rfl,?_,Nat.le_refl _,rfl,rfl,rfl⟩,?_,?_,List.Perm.refl _,?_,rfl⟩
 ·intro j;cases j with
  | zero=>exact v
  | succ j=>intro r m o hr;simp[cellsOf]at hr
 ·intro j r b o hr;cases j with
  | zero=>exact u r b o hr
  | succ j=>simp[cellsOf]at hr
 ·intro g _;rfl
 ·intro op l;simp at l
 ·intro p k b s;exact absurd s (f p k b)
 ·rintro g ⟨r,q⟩ b hb;refine⟨?_,fun h=>h⟩;unfold holdsC at hb;simp only[List.not_mem_nil,and_false,if_false]at hb;cases g with
  | zero =>
   cases e:get r with
   | none=>simp[cellsOf,e]at hb
   | some x=>exact Fits.lt v e
  | succ g=>simp[cellsOf]at hb
 ·intro g g' k _ d;exact absurd d (a g k)
 ·intro g k d;exact absurd d (a g k)
 ·intro g k b _ p s;exact absurd s (f p k true)
 ·intro i j k b z _ _ s;exact absurd s (f i k b)
 ·intro p op x n;simp at n
 ·intro g _ p op n;simp at n
 ·intro c hc;cases hc
 ·intro c hc;cases hc
 ·intro j y r;cases j with
  | zero=>exact absurd y (Nat.not_le.2 Nat.one_pos)
  | succ j=>simp[cellsOf]
 ·intro j k d;exact absurd d (a j k)
 ·intro x e;cases e
 ·intro x e;cases e
 ·intro i x e;simp at e
theorem run_well{f:FuncId}{args:Array Value}{w0:World}{Q:Value->LH->Prop}(m:Fits get w0)(g:∀ r x,get r=some x->x.1=false)(j:∀ r b o,get r=some (b,o)->∀ i,¬ isHole o i)(e:P.inits.idxOf? f=none)
 (c:FWK XT P .normal f args ⟨get,[],[],[]⟩ Q)(n:∀ v h',Q v h'->h'.pend=[]/\∀ w',Fits h'.get w'->KeptW w0.heap.size w0 w'->Φ v w'):EndsWell P Φ (solo (G (Frame.enter P f args .normal) []) w0) #[]:=by
 have p:Top P w0.heap.size w0 Φ (G (Frame.enter P f args .normal) []) ⟨get,[],[],[]⟩:=by
  refine c.2 true _ (top_closed P _ w0 Φ) [] trivial ?_;intro fr v h' k a d hr u;obtain⟨t,l⟩:=n v h' u;exact top_ret (h:=h'.add k) hr (by rw[a];exact e) t fun w' q s=>l w' q.left s
 exact top_start m g j p
end
section
def getW(W:World):Cells:=fun r=>match W.heap[r]? with
 | some (.pending _ _)=>none
 | some o=>some (false,o)
 | none=>none
variable {W:World}{r:Nat}{a:Addr}
theorem Uy{m:Bool}{o:Obj}(h:getW W r=some (m,o)):m=false/\W.heap[r]?=some o/\∀ c e,o≠.pending c e:=by
 unfold getW at h;split at h
 ·cases h
 ·rename_i d a he;cases h;exact⟨rfl,he,fun c e b=>a c e b⟩
 ·cases h
theorem getW_fits(W:World):Fits (getW W) W:=by
 intro r m o h;obtain⟨_,a,b⟩:=Uy h;refine⟨o,a,?_⟩;cases o with
 | pending c e=>exact absurd rfl (b c e)
 | _=>exact rfl
theorem getW_no(W:World):∀ r x,getW W r=some x->x.1=false:=by
 rintro r ⟨m,o⟩ h;exact(Uy h).1
theorem getW_whole(W:World):∀ r b o,getW W r=some (b,o)->∀ i,¬ isHole o i:=by
 intro r b o h i;have a:=(Uy h).2.2;cases o with
 | pending c e=>exact absurd rfl (a c e)
 | _=>exact id
theorem getW_of{c:Array Value}{e:TypeId}{f:Nat×Nat}(h:W.heap[r]?=some (.cells c e f)):getW W r=some (false,.cells c e f):=by
 unfold getW;rw[h]
theorem Hr{v:Value}(h:W.cell? a=some v):(getW W).cell? a=some v:=by
 unfold World.cell? at h;split at h
 ·rename_i c t f he;unfold Cells.cell?;rw[getW_of he];exact h
 ·cases h
theorem mapM_at{α:Type}{f:Nat->Option α}:∀ {l:List Nat} {r:List α},l.mapM f=some r->r.length=l.length/\∀ (i:Nat) y,r[i]?=some y->∃ j,l[i]?=some j/\f j=some y:=by
 intro l
 induction l with
 | nil=>intro r h;simp at h;subst h;exact⟨rfl,fun i y c=>by simp at c⟩
 | cons a asq m =>
  intro r h;rw[List.mapM_cons]at h;cases d:f a with
  | none=>simp[d]at h
  | some b =>
   cases has:asq.mapM f with
   | none=>simp[d,has]at h
   | some bs =>
    simp[d,has]at h;subst h;obtain⟨g,k⟩:=m has;refine⟨by simp[g],fun i y c=>?_⟩;cases i with
    | zero=>simp at c;subst c;exact⟨a,rfl,d⟩
    | succ i=>obtain⟨j,e⟩:=k i y (by simpa using c);exact⟨j,by simpa using e.1,e.2⟩
theorem cells_at{base n:Nat}{cs:List Value}(h:W.cells? base a n=some cs):cs.length=n/\∀ (i:Nat) v,cs[i]?=some v->(getW W).cell? (a.add i)=some v:=by
 unfold World.cells? at h;split at h
 ·obtain⟨b,c⟩:=mapM_at h;refine⟨by simpa using b,fun i v hv=>?_⟩;obtain⟨j,d,hc⟩:=c i v hv;have:j=i:=by
   have:=List.getElem?_eq_some_iff.1 d;obtain⟨_,e⟩:=this;simpa using e.symm
  rw[this]at hc;exact Hr hc
 ·cases h
section
variable {H:Type} {enc:TypeId×Value->H} {P:Program} {W:World} {base:Nat} {sp:Nat->Bool} {held:Bool} {fuel:Nat} {t:TypeId} {cs:List Value} {x:DataW H×List MemPlace}
def Light(P:Program)(t:TypeId)(d:DataW H):Prop:=∀ n∈d.weights P t,n<=reachBytes
theorem weightsAll_mem{e:TypeId}:∀ {l:List (DataW H)} {d:DataW H},d∈l->∀ n∈d.weights P e,n∈DataW.weightsAll P e l
 | d0::l,d,a,n,b=>by
  simp only[DataW.weightsAll,List.mem_append];rcases List.mem_cons.1 a with rfl|a
  ·exact .inl b
  ·exact .inr (weightsAll_mem a n b)
def Gm(P:Program)(t:TypeId)(l:List (TypeId×Nat)):Prop:=∃ fs,P.underlying t=some (.struct fs)/\fs.toList.map (fun f=>(f.type,f.offset))=l
theorem Dr{l:List (TypeId×Nat)}(o:Gm P t l)(s:Light P t x.1)(h:DataW.trod enc P W base sp held fuel t cs=some x) :
  cs.length=P.cellsOf t/\∃ n:Nat,∀ (i:Nat) (ti:TypeId) (m:Nat),l[i]?=some (ti,m)->∃ y,DataW.trod enc P W base sp held n ti ((cs.drop m).take (P.cellsOf ti))=some y/\Light P ti y.1:=by
 obtain⟨fs,hu,rfl⟩:=o;obtain⟨xs,n,_,rfl,q,r,c⟩:=DataW.trod_struct hu h;refine⟨q,n,fun i ti m g=>?_⟩;rw[List.getElem?_map]at g;cases a:fs.toList[i]? with
 | none=>simp[a]at g
 | some f =>
  simp[a]at g;obtain⟨rfl,rfl⟩:=g;have b:fs[i]?=some f:=by simpa using a
  have e:i<xs.length:=by rw[r];exact(Array.getElem?_eq_some_iff.1 b).1
  refine⟨xs[i],by rw[c i f b,List.getElem?_eq_getElem e],fun k p=>s k ?_⟩;unfold DataW.weights;rw[hu];exact DataW.weights_mem_each (j:=i) (t:=f.type) (d:=xs[i].1) (by simp[a]) (by simp[List.getElem?_eq_getElem e]) k p
theorem Gn{α:Type}{E:Cells->Addr->α->Prop}{e:TypeId}{k:Nat}(r:P.underlying t=some (.slice e))(C:P.cellsOf e=k)(f:0<P.bytesOf e)(b:Light P t x.1)
 (A:∀ (n:Nat) (a:Addr) cs y,cs.length=k->(∀ (i:Nat) v,cs[i]?=some v->(getW W).cell? (a.add i)=some v)->DataW.trod enc P W base sp held n e cs=some y->Light P e y.1->∃ z,E (getW W) a z)
 (h:DataW.trod enc P W base sp held fuel t cs=some x):∃ p n c l,cs=[.slice p n c]/\Sl E k (getW W) p n l:=by
 rcases DataW.trod_slice r h with⟨rfl,_⟩|⟨a,len,cap,elems,rest,n,_,rfl,rfl,_,G,hm,hlen,m,_⟩
 ·exact⟨none,0,0,[],rfl,Sl.nil⟩
 ·have d:len<4611686018427387904:=by
   have:=b ((elems.length+rest.length)*P.bytesOf e) (by simp[DataW.weights,r]);have F:elems.length<=(elems.length+rest.length)*P.bytesOf e:=Nat.le_trans (Nat.le_add_right _ _) (Nat.le_mul_of_pos_right _ f);simp only[reachBytes]at this;omega
  have key:∀ i:Fin len,∃ z,E (getW W) (a.add (i.1*k)) z:=by
   rintro⟨i,o⟩;have u:=m i o;rw[List.getElem?_eq_getElem (by omega:i<elems.length)]at u;obtain⟨w,hc,D⟩:=Option.bind_eq_some_iff.1 u;obtain⟨s,c2⟩:=cells_at hc;rw[C]at s c2;refine A _ _ _ _ s c2 D fun k q=>b k ?_;simp only[DataW.weights,r,List.mem_cons,List.mem_append];exact .inr (.inl (weightsAll_mem (List.mem_map.2 ⟨_,List.getElem_mem _,rfl⟩) k q))
  have j:=Classical.axiomOfChoice key;obtain⟨g,B⟩:=j;refine⟨some a,len,cap,List.ofFn g,rfl,by simp,?_,fun i z b=>⟨a,rfl,?_⟩⟩
  ·simpa using d
  ·rw[List.getElem?_ofFn]at b;split at b
   ·rename_i o;cases b;exact B ⟨i,o⟩
   ·cases b
structure UseTy(P:Program)(tI tIs tSpan tSpans tPaper tPapers tReq tReqs tFile:TypeId):Prop where
 int:P.underlying tI=some (.int .i64)
 int1:P.cellsOf tI=1
 bytes:0<P.bytesOf tI/\0<P.bytesOf tSpan/\0<P.bytesOf tPaper/\0<P.bytesOf tReq
 ints:P.underlying tIs=some (.slice tI)
 ints1:P.cellsOf tIs=1
 span:Gm P tSpan [(tI,0),(tI,1)]
 span2:P.cellsOf tSpan=2
 spans:P.underlying tSpans=some (.slice tSpan)
 spans1:P.cellsOf tSpans=1
 paper:Gm P tPaper [(tSpan,0),(tI,2),(tIs,3)]
 paper4:P.cellsOf tPaper=4
 papers:P.underlying tPapers=some (.slice tPaper)
 papers1:P.cellsOf tPapers=1
 req:Gm P tReq [(tI,0),(tI,1),(tIs,2)]
 req3:P.cellsOf tReq=3
 reqs:P.underlying tReqs=some (.slice tReq)
 reqs1:P.cellsOf tReqs=1
 file:Gm P tFile [(tI,0),(tI,1),(tI,2),(tI,3),(tSpans,4),(tPapers,5),(tReqs,6)]
 file7:P.cellsOf tFile=7
variable {tI tIs tSpan tSpans tPaper tPapers tReq tReqs tFile:TypeId}
theorem ints_of_trod(T:UseTy P tI tIs tSpan tSpans tPaper tPapers tReq tReqs tFile)(d:Light P tIs x.1)(h:DataW.trod enc P W base sp held fuel tIs cs=some x) :
  ∃ p n c l,cs=[.slice p n c]/\Sl IntE 1 (getW W) p n l:=by
 refine Gn T.ints T.int1 T.bytes.1 d ?_ h;intro n a cs y _ hc b _;obtain⟨z,rfl,_,_⟩:=DataW.trod_int T.int b;exact⟨z,hc 0 _ rfl⟩
theorem span_cells(T:UseTy P tI tIs tSpan tSpans tPaper tPapers tReq tReqs tFile)(i:Light P tSpan x.1)(h:DataW.trod enc P W base sp held fuel tSpan cs=some x) :
  ∃ a b,cs=[.int .i64 a,.int .i64 b]:=by
 obtain⟨g,n,f⟩:=Dr T.span i h;rw[T.span2]at g
 match cs,g with
 | [l,m],_ =>
  obtain⟨y,h0,j⟩:=f 0 tI 0 rfl;obtain⟨o,e,k⟩:=f 1 tI 1 rfl;rw[T.int1]at h0 e;obtain⟨a,c,_,_⟩:=DataW.trod_int T.int h0;obtain⟨b,d,_,_⟩:=DataW.trod_int T.int e;simp at c d;exact⟨a,b,by rw[c,d]⟩
theorem spans_of_trod(T:UseTy P tI tIs tSpan tSpans tPaper tPapers tReq tReqs tFile)(b:Light P tSpans x.1)(h:DataW.trod enc P W base sp held fuel tSpans cs=some x) :
  ∃ p n c l,cs=[.slice p n c]/\Sl SpanE 2 (getW W) p n l:=by
 refine Gn T.spans T.span2 T.bytes.2.1 b ?_ h;intro n a cs y _ hc d b;obtain⟨u,v,rfl⟩:=span_cells T b d;exact⟨⟨u,v⟩,hc 0 _ rfl,hc 1 _ rfl⟩
theorem papers_of_trod(T:UseTy P tI tIs tSpan tSpans tPaper tPapers tReq tReqs tFile)(e:Light P tPapers x.1)(h:DataW.trod enc P W base sp held fuel tPapers cs=some x) :
  ∃ p n c l,cs=[.slice p n c]/\Sl PaperE 4 (getW W) p n l:=by
 refine Gn T.papers T.paper4 T.bytes.2.2.1 e ?_ h;intro n a cs y t hc w e;obtain⟨_,m,d⟩:=Dr T.paper e w
 match cs,t with
 | [A,B,c2,c3],_ =>
  obtain⟨C,h0,f⟩:=d 0 tSpan 0 rfl;obtain⟨D,q,z⟩:=d 1 tI 2 rfl;obtain⟨E,r,g⟩:=d 2 tIs 3 rfl;rw[T.span2]at h0;rw[T.int1]at q;rw[T.ints1]at r;obtain⟨u,v,i⟩:=span_cells T f h0;obtain⟨b,j,_,_⟩:=DataW.trod_int T.int q;obtain⟨p,k,c,l,o,s⟩:=ints_of_trod T g r;simp at i j o;obtain⟨rfl,rfl⟩:=i;subst j;subst o;exact⟨⟨⟨u,v⟩,b,l⟩,hc 0 _ rfl,hc 1 _ rfl,hc 2 _ rfl,p,k,c,hc 3 _ rfl,s⟩
theorem reqs_of_trod(T:UseTy P tI tIs tSpan tSpans tPaper tPapers tReq tReqs tFile)(f:Light P tReqs x.1)(h:DataW.trod enc P W base sp held fuel tReqs cs=some x) :
  ∃ p n c l,cs=[.slice p n c]/\Sl RequestE 3 (getW W) p n l:=by
 refine Gn T.reqs T.req3 T.bytes.2.2.2 f ?_ h;intro n a cs y t hc u f;obtain⟨_,m,e⟩:=Dr T.req f u
 match cs,t with
 | [z,A,c2],_ =>
  obtain⟨B,h0,v⟩:=e 0 tI 0 rfl;obtain⟨C,q,w⟩:=e 1 tI 1 rfl;obtain⟨D,r,g⟩:=e 2 tIs 2 rfl;rw[T.int1]at h0 q;rw[T.ints1]at r;obtain⟨d,i,_,_⟩:=DataW.trod_int T.int h0;obtain⟨b,j,_,_⟩:=DataW.trod_int T.int q;obtain⟨p,k,c,l,o,s⟩:=ints_of_trod T g r;simp at i j o;subst i;subst j;subst o;exact⟨⟨d,b,l⟩,hc 0 _ rfl,hc 1 _ rfl,p,k,c,hc 2 _ rfl,s⟩
theorem file_of_trod(T:UseTy P tI tIs tSpan tSpans tPaper tPapers tReq tReqs tFile)(B:Light P tFile x.1)(h:DataW.trod enc P W base sp held fuel tFile cs=some x) :
  ∃ f u,cs=[.int .i64 u.items,.int .i64 u.lands,.int .i64 u.from_,.int .i64 u.idle,.slice f.p4 f.n4 f.c4,.slice f.p5 f.n5 f.c5,.slice f.p6 f.n6 f.c6]/\FileR (getW W) f u:=by
 obtain⟨v,m,a⟩:=Dr T.file B h;rw[T.file7]at v
 match cs,v with
 | [Q,R,c2,c3,c4,c5,c6],_ =>
  obtain⟨S,h0,L⟩:=a 0 tI 0 rfl;obtain⟨U,o,M⟩:=a 1 tI 1 rfl;obtain⟨V,p,N⟩:=a 2 tI 2 rfl;obtain⟨X,q,O⟩:=a 3 tI 3 rfl;obtain⟨Y,r,b⟩:=a 4 tSpans 4 rfl;obtain⟨Z,s,c⟩:=a 5 tPapers 5 rfl;obtain⟨y6,t,d⟩:=a 6 tReqs 6 rfl;rw[T.int1]at h0 o p q;rw[T.spans1]at r;rw[T.papers1]at s;rw[T.reqs1]at t;obtain⟨w,e,_,_⟩:=DataW.trod_int T.int h0;obtain⟨y,g,_,_⟩:=DataW.trod_int T.int o;obtain⟨z,i,_,_⟩:=DataW.trod_int T.int p;obtain⟨A,j,_,_⟩:=DataW.trod_int T.int q;obtain⟨p4,n4,C,F,k,I⟩:=spans_of_trod T b r;obtain⟨p5,n5,D,G,l,J⟩:=papers_of_trod T c s;obtain⟨p6,n6,E,H,n,K⟩:=reqs_of_trod T d t;simp at e g i j k l n;subst e;subst g;subst i;subst j;subst k;subst l;subst n;exact⟨⟨p4,n4,C,p5,n5,D,p6,n6,E⟩,⟨w,y,z,A,F,G,H⟩,rfl,I,J,K⟩
theorem file_arg(T:UseTy P tI tIs tSpan tSpans tPaper tPapers tReq tReqs tFile){r:Reach}{a:Nat}{v:Value}{d:DataW H}{ps:List MemPlace}
 (hv:Value.okWide P W r a tFile v)(g:Light P tFile d)(h:DataW.Trod enc P W base sp held tFile v d ps):∃ f u,v=fileV f u/\FileR (getW W) f u:=by
 obtain⟨fs,hu,_⟩:=T.file;obtain⟨cs,rfl,_⟩:=WideShapes.okWide_struct hu hv;obtain⟨fuel,c⟩:=h;obtain⟨f,u,e,hr⟩:=file_of_trod T g c;refine⟨f,u,?_,hr⟩;have b:cs.toList=_:=e;unfold fileV;congr 1;apply Array.ext';exact b
end
theorem KeptW.below{w0 w:World}(k:KeptW w0.heap.size w0 w):Go.RowKit.Below w0.heap.size w0 w:=⟨k.os,k.tape,k.output,k.size,k.base⟩
end
section
open Go.ChangeShapes Go.RowKit
theorem trodAll_below{H:Type}{enc:TypeId×Value->H}{P:Program}(f:laidOutB P=true){W e:World}(hb:Below W.heap.size W e):∀ {ts:List TypeId} {vs:List Value} {ds:List (DataW H)} {ps:List MemPlace},
  (∀ t∈ts,P.readableRec t=true/\t<P.types.size)->DataW.TrodAll enc P W 0 (fun _=>true) true ts vs ds ps->(∀ x∈ps,x.block<W.heap.size) ->
  DataW.TrodAll enc P e 0 (fun b=>decide (b<W.heap.size)) true ts vs ds ps
 | [],[],[],_,_,h,_=>h
 | t::ts,v::vs,d::ds,_,hr,h,a=>by
  obtain⟨p,q,g,i,rfl⟩:=h;exact⟨p,q,Below.trod f (hr t (by simp)).1 (hr t (by simp)).2 g hb (fun x c=>a x (by simp[c])),trodAll_below f hb (fun k j=>hr k (by simp[j])) i (fun x c=>a x (by simp[c])),rfl⟩
 | [],[],_::_,_,_,h,_=>h.elim
 | [],_::_,_,_,_,h,_=>by cases h
 | _::_,[],_,_,_,h,_=>by cases h
 | _::_,_::_,[],_,_,h,_=>h.elim
section
variable {H:Type} {enc:TypeId×Value->H}
theorem row_leaving{C:Checked}{os:Os}{f:FuncId}{fn:Func}{s:ChangeSpec}{l:List (String×DataW Unit)}{tb:TypeId}
 (own:ownKnob C.prog.godebug=none)(started:os.Started)(B:C.prog.funcs[f]?=some fn)(D:C.prog.inits.idxOf? f=none)(hv:s.vars=[])(lo:laidOutB C.prog=true)
 (hr:∀ t∈fn.params.toList,C.prog.readableRec t=true/\t<C.prog.types.size)(y:fn.resultTypes=#[tb])(hb:C.prog.underlying tb=some .bool)
 (R:∀ ds:List (DataW H),ds.length=fn.params.size->s.fn H ds={ results:=[.lit (.bool true)],args:=ds })
 (witness:∃ (w:World) (tape:Tape) (i:Input),w.os=os/\(w.forCall tape i).Shaped C.prog/\i.vars=[]/\Input.okWide C.prog (w.forCall tape i) .any w.heap.size f i /\
   ((s.pre enc C.prog fn [] false (w.forCall tape i).memory i.args/\laidMetH C.prog l (w.forCall tape i).memory)/\sizedMet enc C.prog fn (OpenSpec.ofChange s) false (w.forCall tape i).memory i.args)/\({}:Assume).holds C.prog (lone (Frame.enter C.prog f i.args .normal) [] (w.forCall tape i)))
 (runs:∀ (W:World) (base:Nat) (args:Array Value) (ds:List (DataW H)) (ps:List MemPlace),(∀ (j:Nat) t v,fn.params[j]?=some t->args[j]?=some v->Value.okWide C.prog W .any base t v) ->
   DataW.TrodAll enc C.prog W 0 (fun _=>true) true fn.params.toList args.toList ds ps->(∀ (j:Nat) t d,fn.params.toList[j]?=some t->ds[j]?=some d->Light C.prog t d)->laidMetH C.prog l W->FWK XT C.prog .normal f args ⟨getW W,[],[],[]⟩ fun r h'=>r=.bool true/\h'.pend=[]) :
  ReturnsInLeavingWide {} C os f .any (fun w args=>(s.pre enc C.prog fn [] false w args/\laidMetH C.prog l w)/\sizedMet enc C.prog fn (OpenSpec.ofChange s) false w args) (s.post enc C.prog fn false true false false):=by
 refine returnsInLeavingWide_of_good own started witness ?_;intro w tape i _ _ _ F u _;obtain⟨_,_,_,a,o,_,_,_,_,c⟩:=F;have e:a=fn:=Option.some.inj (o.symm.trans B);subst e;obtain⟨⟨⟨ds,gs,before,hw,_⟩,G⟩,S⟩:=u;have I:=S.weights hw;have k:=DataW.Whole.of_heap (w':=w.forCall tape i) (by rfl) hw;have z:laidMetH C.prog l (w.forCall tape i):=laidMetH.of_heap (by rfl) G;generalize w.forCall tape i=W at c k z ⊢;have m:=k;obtain⟨p,q,A,J,rfl,_,_⟩:=k;rw[hv]at J;obtain⟨rfl,rfl⟩:=trodVars_none J;have b:∀ (j:Nat) t d,a.params.toList[j]?=some t->ds[j]?=some d->Light C.prog t d:=by
  intro j t d L N n O;have hm:=DataW.weights_mem_each (P:=C.prog) (ts:=a.params.toList++s.plain.varTypes C.prog) (ds:=ds++[]) (j:=j) (by rw[List.getElem?_append_left (List.getElem?_eq_some_iff.1 L).1];exact L) (by rw[List.append_nil];exact N) n O;have:=List.all_eq_true.1 I n hm;simpa using this
 have E:∀ x∈p,x.block<W.heap.size:=fun x G=>by simpa using m.lt x (by simpa using G)
 have hlen:ds.length=a.params.size:=by
  have:∀ {ts:List TypeId} {vs:List Value} {ds:List (DataW H)} {ps:List MemPlace},DataW.TrodAll enc C.prog W 0 (fun _=>true) true ts vs ds ps->ds.length=ts.length:=by
   intro ts
   induction ts with
   | nil=>intro vs ds ps h;cases vs<;>cases ds<;>first|rfl|exact h.elim
   | cons t ts U =>
    intro vs ds ps h;cases vs with
    | nil=>exact h.elim
    | cons v vs =>
     cases ds with
     | nil=>exact h.elim
     | cons d ds=>obtain⟨_,_,_,M,_⟩:=h;simp[U M]
  simpa using this A
 have g:s.fn H (ds++[])={ results:=[.lit (.bool true)],args:=ds }:=by rw[List.append_nil];exact R ds hlen
 exact run_well (Φ:=fun v w'=>s.post enc C.prog a false true false false W.blind i.args v w'.blind) (getW_fits W) (getW_no W) (getW_whole W) D (runs W _ i.args ds p c A b z) (by
  rintro v h' ⟨rfl,Q⟩;refine⟨Q,fun w' _ K=>ChangeSpec.post_blind ⟨ds,[],_,[],p,[],m,?_,?_,?_,K.below.frame _,fun h=>by cases h⟩⟩
  ·rw[g,y];exact trodAll_mk1 (shut_bool hb true)
  ·rw[g];exact trodAll_below lo K.below hr A E
  ·rw[g,hv];rfl)
end
theorem card_goes{p:Pinned}{s:OpenSpec}{c:OpenClaim}(kinds:List LaidKind)(b:Bool)(a:Bool×String)(e:Bool)
 (hc:c.holds p s)(hw:c.wfByText s=true)(d:c.laidByTextAt .later p kinds b)
 (i:c.start=.entering)(g:c.noBlocks=false/\c.again=false)(hm:p.checked.prog.mainIs=some (a.1,a.2.toList))(o:(!a.1&&a.2.isEmpty&&!e)=false)
 (n:∀ f fn,p.checked.prog.funcNamed c.func=some f->p.checked.prog.funcs[f]?=some fn->e=p.checked.prog.looks []/\∀ (j:Nat) t,fn.params[j]?=some t->p.checked.prog.wantsStandIn t=false)
 (m:true=c.goesBy p.checked.prog) :
  Claim7.holds p (.plain s) { stood:={ row:=c,standIns:=[],harness:=a,looks:=e },kinds:=[],alts:=[],goes:=true,laidByText:=true,laidKinds:=kinds,laidTests:=b,laidLooks:=.later }:=by
 have k:∀ r:OpenClaim,Claim7.isSixth { stood:={ row:=r,standIns:=[],harness:=a,looks:=e },kinds:=[] }=false:=fun r=>by simpa[Claim7.isSixth] using o
 refine⟨?_,(fun D l=>by cases l),d,(fun h=>by cases h),m⟩;exact Claim7.tied_new_at .later kinds b (Claim7.new_of_sixth hc a e i g hm (k c) n) hw
end
section
variable {P:Program} {E:Halt->Cells->Prop} {h:Cells}
variable {el t ty sT xT xe:TypeId}{cells cs:Array Value}{Q:Value->Cells->Prop}{n c m mc b s by_ r i len:Nat}{z v:Value}{k:Value->T}{vs ws:List Value}{p:Option Addr}{X:XP}
theorem Zf{Q:Addr->Cells->Prop}(a:∀ r,h r=none->Q ⟨r,0,none⟩ (h.upd r (true,.cells cells el (0,0)))):Qd P (newRow el cells) Q E h:=fun r hr=>a r hr
theorem lwp_buildSlice{parts:Array (Nat×Value)}{inf:TypeInfo}(hu:P.underlying t=some (.slice el))(b:P.info? el=some inf)(f:inf.zero=some z)(d:n*inf.size<=2^24)(a:n*inf.size≠0)
 (c:Instr.fill (fun i=>some (i*inf.size,inf.size)) ((Array.range (n*inf.size)).map (z.cells[·%z.cells.size]!)) parts.toList=some cells)(e:∀ r,h r=none->Q (.slice (some ⟨r,0,none⟩) n n) (h.upd r (true,.cells cells el (0,0)))):Qd P (Instr.buildSlice t n parts) Q E h:=by
 unfold Instr.buildSlice;rw[lwp_bind,Qc hu];simp only[];simp only[lwp_bind,Qy b,if_neg (Nat.not_lt.2 d),Qg,if_neg a,Je b f,c];exact Zf e
def OwnRow(el:TypeId)(k:Nat)(h:Cells)(p:Option Addr)(n c:Nat)(vs:List Value):Prop :=
 vs.length=n*k/\((p=none/\n=0/\c=0)\/∃ (r:Nat) (cs:Array Value),p=some ⟨r,0,none⟩/\h r=some (true,.cells cs el (0,0))/\cs.size=c*k/\n<=c/\∀ (j:Nat) (v:Value),vs[j]?=some v->cs[j]?=some v)
theorem OwnRow.nil{k:Nat}:OwnRow el k h none 0 0 []:=⟨by simp,.inl ⟨rfl,rfl,rfl⟩⟩
def KeptBut(p:Option Addr)(h h':Cells):Prop:=∀ r x,h r=some x->(∀ a,p=some a->a.block≠r)->h' r=some x
theorem growBy_le(N:Nat):∀ (rounds c:Nat),c<=2*N+400->Builtin.growBy N rounds c<=2*N+400:=by
 intro rounds
 induction rounds with
 | zero=>intro c hc;exact hc
 | succ k a =>
  intro c hc;unfold Builtin.growBy;split
  ·exact hc
  ·exact a _ (by omega)
theorem nextslicecap_le{N:Nat}(hc:c<N):Builtin.nextslicecap N c<=2*N+400:=by
 unfold Builtin.nextslicecap;split
 ·omega
 ·split
  ·omega
  ·exact growBy_le N 4 c (by omega)
theorem setMany_get{o:Nat}(a:o+vs.length<=cs.size)(i:Nat):(setMany cs o vs)[i]?=if o<=i/\i<o+vs.length then vs[i-o]? else cs[i]?:=get_setMany vs cs o a i
theorem Wd{Q:Array Value->Cells->Prop}{l:List Value}{a:Addr}(b:l.length=n)(hc:∀ (t:Nat) v,l[t]?=some v->h.cell? (a.add t)=some v)(c:Q l.toArray h):Qd P (loadCells a n) Q E h:=by
 unfold loadCells;subst b;refine lwp_loadCells l a 0 #[] h (fun t v d=>by rw[Nat.zero_add];exact hc t v d) ?_;rw[Array.empty_append];exact c
theorem lwp_append{ts:Array TypeId}{inf:TypeInfo}{b:Addr}(h0:ts[0]?=some sT)(D:ts[1]?=some xT)(hu:P.underlying sT=some (.slice el))(Z:P.underlying xT=some (.slice xe))
 (H:P.info? el=some inf)(hz:inf.zero=some z)(M:z.cells.size=inf.size)(hb:inf.bytes<=1024)(Y:n+m<=2^30)(own:OwnRow el inf.size h p n c vs)(y:ws.length=m*inf.size)(hc:∀ (j:Nat) v,ws[j]?=some v->h.cell? (b.add j)=some v)(one:∀ v∈ws,isOne v=true)(hm:0<m)
 (S:∀ C R h',OwnRow el inf.size h' C (n+m) R (vs++ws)->KeptBut p h h'->(C=p\/∃ r,C=some ⟨r,0,none⟩/\h r=none)->Q (.slice C (n+m) R) h'):Qd P (Builtin.append_ ts ty #[.slice p n c,.slice (some b) m mc]) Q E h:=by
 unfold Builtin.append_;rw[h0,D];simp only[List.getElem?_toArray,List.getElem?_cons_zero,List.getElem?_cons_succ];simp only[lwp_bind,Qc hu,Qy H,Qc Z,Qg,Bool.false_eq_true,if_false,Bool.not_false,if_true,Builtin.lenOf];obtain⟨f,q⟩:=own;by_cases d:n+m<=c
 ·simp only[if_pos d,lwp_bind,Builtin.firstCells];refine Wd (l:=ws) y hc ?_;rcases q with⟨rfl,rfl,rfl⟩|⟨r,cs,rfl,hr,u,J,hv⟩
  ·omega
  ·simp only[];have hle:n*inf.size+ws.length<=cs.size:=by rw[y,u,<- Nat.add_mul];exact Nat.mul_le_mul_right _ d
   have F:Addr.add ⟨r,0,none⟩ (n*inf.size)=⟨r,n*inf.size,none⟩:=by unfold Addr.add;split<;>simp_all
   rw[F];rw[lwp_bind];refine Wm ws 0 h r (n*inf.size) cs el hr (by omega) one ?_;rw[Qg];refine S _ _ _ ⟨by simp[f,y,Nat.add_mul],.inr ⟨r,_,rfl,Qm _ _ _,?_,d,?_⟩⟩ ?_ (.inl rfl)
   ·rw[size_setMany];exact u
   ·intro j v i;rw[setMany_get (by omega)];by_cases I:j<vs.length
    ·rw[if_neg (by omega)];rw[List.getElem?_append_left I]at i;exact hv j v i
    ·rw[List.getElem?_append_right (by omega)]at i;have X:j-vs.length<ws.length:=(List.getElem?_eq_some_iff.1 i).1;rw[if_pos (by omega),<- i];congr 1;omega
   ·intro O x g L;have:O≠r:=fun e=>L _ rfl e.symm;rw[Qp _ _ this];exact g
 ·have B:¬ ((((n+m:Nat):Int)>IntKind.i64.max)/\((false:Bool)=true\/inf.bytes=0)):=by
   rintro⟨D,_⟩;have e:IntKind.i64.max=9223372036854775807:=rfl;rw[e]at D;omega
  have A:=nextslicecap_le (Nat.lt_of_not_le d);have k:¬ (Builtin.nextslicecap (n+m) c*inf.bytes>2^48):=by
   have:=Nat.mul_le_mul A hb;have h2:(2*(n+m)+400)*1024<=(2*2^30+400)*1024:=Nat.mul_le_mul_right _ (by omega);have:(2*2^30+400)*1024<=2^48:=by decide
   omega
  have w:¬ ((((n+m:Nat):Int)>IntKind.i64.max)/\(False\/inf.bytes=0)):=fun h=>B ⟨h.1,h.2.imp_left False.elim⟩;simp only[if_neg d,lwp_bind,Jq H,if_neg w,if_neg k,Qg];have G:∀ {K:Nat->Cells->Prop},(∀ a,n+m<=a->K a h)->Qd P (choose (Question.appendCap (n+m) c el)) K E h:=by
   intro K s;show (if _ then _ else _);split
   ·rename_i W;simp[Question.forced]at W
   ·intro t;exact s _ (Nat.le_add_right _ _)
  refine G fun a F=>?_;have o:∀ {K:Unit->Cells->Prop},K () h->Qd P (askRoom (a*inf.bytes)) K E h:=by
   intro K s;unfold askRoom;split
   ·exact⟨.inl rfl,s⟩
   ·exact s
  refine o ?_;have hold:∀ {K:Array Value->Cells->Prop},(∀ old:Array Value,old.toList=vs->K old h)->Qd P (Builtin.firstCells inf.size n (Value.slice p n c)) K E h:=by
   intro K s;rcases q with⟨rfl,rfl,rfl⟩|⟨r,cs,rfl,hr,u,J,hv⟩
   ·have:vs=[]:=List.eq_nil_of_length_eq_zero (by rw[f];simp);simp only[Builtin.firstCells,Qg];exact s #[] (by rw[this])
   ·simp only[Builtin.firstCells];refine Wd (l:=vs) f (fun j v i=>?_) (s _ rfl);have e:Addr.add ⟨r,0,none⟩ j=⟨r,j,none⟩:=by unfold Addr.add;split<;>simp_all
    rw[e];simp only[Cells.cell?,hr,Option.isSome_none,Bool.false_eq_true,if_false];exact hv j v i
  refine hold fun old hold=>?_;simp only[Builtin.firstCells];refine Wd (l:=ws) y hc ?_;simp only[Je H hz];refine Zf fun r hr=>?_;have N:(Builtin.zeroCells z.cells (a-(n+m))).size=(a-(n+m))*inf.size:=by simp[Builtin.zeroCells,M]
  refine S _ _ _ ⟨by simp[f,y,Nat.add_mul],.inr ⟨r,_,rfl,Qm _ _ _,?_,F,?_⟩⟩ ?_ (.inr ⟨r,rfl,hr⟩)
  ·have U:old.size=n*inf.size:=by rw[<- Array.length_toList,hold,f]
   have V:(ws.toArray).size=m*inf.size:=by simp[y]
   simp only[Array.size_append,U,V,N];rw[<- Nat.add_mul,<- Nat.add_mul];congr 1;omega
  ·intro j v i;have hlen:j<(vs++ws).length:=(List.getElem?_eq_some_iff.1 i).1;rw[<- Array.getElem?_toList,Array.toList_append,Array.toList_append,hold,List.getElem?_append_left (by simpa using hlen)];exact i
  ·intro O x g _;have:O≠r:=by rintro rfl;rw[hr]at g;cases g
   rw[Qp _ _ this];exact g
theorem Zk{z:Option Value}(h:(P.info? t).map (fun i=>(i.size,i.bytes,i.zero))=some (s,b,z)):∃ i,P.info? t=some i/\i.size=s/\i.bytes=b/\i.zero=z:=by
 cases a:P.info? t with
 | none=>rw[a]at h;cases h
 | some i=>rw[a]at h;simp only[Option.map_some,Option.some.injEq,Prod.mk.injEq]at h;exact⟨i,rfl,h.1,h.2.1,h.2.2⟩
theorem lwp_buildS{parts:Array (Nat×Value)}(hu:P.underlying t=some (.slice el))(g:(P.info? el).map (fun i=>(i.size,i.bytes,i.zero))=some (s,b,some z))(j:n*s<=2^24)(a:n*s≠0)
 (f:Instr.fill (fun i=>some (i*s,s)) ((Array.range (n*s)).map (z.cells[·%z.cells.size]!)) parts.toList=some cells)(k:∀ r,h r=none->Q (.slice (some ⟨r,0,none⟩) n n) (h.upd r (true,.cells cells el (0,0)))):Qd P (Instr.buildSlice t n parts) Q E h:=by
 obtain⟨i,c,d,_,e⟩:=Zk g;subst d;exact lwp_buildSlice hu c e j a f k
theorem lwp_appendS{ts:Array TypeId}{b:Addr}(h0:ts[0]?=some sT)(o:ts[1]?=some xT)(hu:P.underlying sT=some (.slice el))(w:P.underlying xT=some (.slice xe))
 (q:(P.info? el).map (fun i=>(i.size,i.bytes,i.zero))=some (s,by_,some z))(e:z.cells.size=s)(hb:by_<=1024)(d:n+m<=2^30)(own:OwnRow el s h p n c vs)(t:ws.length=m*s)(hc:∀ (j:Nat) v,ws[j]?=some v->h.cell? (b.add j)=some v)(one:∀ v∈ws,isOne v=true)(hm:0<m)
 (u:∀ a f h',OwnRow el s h' a (n+m) f (vs++ws)->KeptBut p h h'->(a=p\/∃ r,a=some ⟨r,0,none⟩/\h r=none)->Q (.slice a (n+m) f) h'):Qd P (Builtin.append_ ts ty #[.slice p n c,.slice (some b) m mc]) Q E h:=by
 obtain⟨i,g,k,l,g4⟩:=Zk q;subst k;subst l;exact lwp_append h0 o hu w g g4 e hb d own t hc one hm u
theorem Qr{h:LH}{x:Bool×Obj}(hr:h.get r=none):h.le { h with get:=h.get.upd r x }:=⟨Kd x hr,rfl,rfl,rfl⟩
theorem Qv{m:Bool}{f:Nat×Nat}(hv:cs[i]?=some v):(h.upd r (m,.cells cs el f)).cell? ⟨r,i,none⟩=some v:=by
 simp[Cells.cell?,Qm,hv]
theorem Qo(r o i:Nat):Addr.add ⟨r,o,none⟩ i=⟨r,o+i,none⟩:=by unfold Addr.add;split<;>simp_all
theorem Zu{Q:Leaf->LH->Prop}{h:LH}{parts:Array (Nat×Value)}(hu:P.underlying t=some (.slice el))(d:(P.info? el).map (fun i=>(i.size,i.bytes,i.zero))=some (s,b,some z))(f:n*s<=2^24)(a:n*s≠0)
 (c:Instr.fill (fun i=>some (i*s,s)) ((Array.range (n*s)).map (z.cells[·%z.cells.size]!)) parts.toList=some cells)
 (e:∀ r,h.get r=none->(k (.slice (some ⟨r,0,none⟩) n n)).wp X P Q { h with get:=h.get.upd r (true,.cells cells el (0,0)) }):(T.sem false (Instr.buildSlice t n parts) k).wp X P Q h :=
 Q9 (A:=fun v h'=>∃ r,h.get r=none/\v=.slice (some ⟨r,0,none⟩) n n/\h'=h.get.upd r (true,.cells cells el (0,0))) (lwp_buildS hu d f a c fun r hr=>⟨r,hr,rfl,rfl⟩) (by rintro v h' ⟨r,hr,rfl,rfl⟩;exact e r hr)
theorem t_append{Q:Leaf->LH->Prop}{h:LH}{ts:Array TypeId}{b:Addr}(h0:ts[0]?=some sT)(l:ts[1]?=some xT)(hu:P.underlying sT=some (.slice el))(u:P.underlying xT=some (.slice xe))
 (o:(P.info? el).map (fun i=>(i.size,i.bytes,i.zero))=some (s,by_,some z))(g:z.cells.size=s)(hb:by_<=1024)(f:n+m<=2^30)(own:OwnRow el s h.get p n c vs)(t:ws.length=m*s)(hc:∀ (j:Nat) v,ws[j]?=some v->h.get.cell? (b.add j)=some v)(one:∀ v∈ws,isOne v=true)(hm:0<m)
 (q:∀ d e h',OwnRow el s h' d (n+m) e (vs++ws)->KeptBut p h.get h'->(d=p\/∃ r,d=some ⟨r,0,none⟩/\h.get r=none)->(k (.slice d (n+m) e)).wp X P Q { h with get:=h' }):(T.sem false (Builtin.append_ ts ty #[.slice p n c,.slice (some b) m mc]) k).wp X P Q h :=
 Q9 (A:=fun v h'=>∃ d e,v=.slice d (n+m) e/\OwnRow el s h' d (n+m) e (vs++ws)/\KeptBut p h.get h'/\(d=p\/∃ r,d=some ⟨r,0,none⟩/\h.get r=none)) (lwp_appendS h0 l hu u o g hb f own t hc one hm fun d e h' a b c=>⟨d,e,rfl,a,b,c⟩)
  (by rintro v h' ⟨d,e,rfl,a,b,c⟩;exact q d e h' a b c)
theorem lwp_index{d:TypeDesc}{z:Option Value}{k:IntKind}(hu:P.underlying t=some (.array len el))(f:(P.info? el).map (fun i=>(i.size,i.bytes,i.zero))=some (1,b,z))(he:P.underlying el=some d)(e:isAggT P el=false)
 (g:i<len)(hv:cs[i]?=some v)(l:Q v h):Qd P (Instr.index t (.agg cs) (.int k i)) Q E h:=by
 obtain⟨j,a,c,_,_⟩:=Zk f;unfold Instr.index;simp only[asIntOf,lwp_bind,Qg,Qc hu];rw[if_pos (by omega)];simp only[lwp_bind,Qy a,part,Z0 he e,c,Int.toNat_natCast,Nat.mul_one,Bool.false_eq_true,if_false,hv];exact l
theorem t_index{Q:Leaf->LH->Prop}{h:LH}{K:Value->T}{d:TypeDesc}{z:Option Value}{k:IntKind}(hu:P.underlying t=some (.array len el))(e:(P.info? el).map (fun i=>(i.size,i.bytes,i.zero))=some (1,b,z))(he:P.underlying el=some d)(c:isAggT P el=false)
 (a:i<len)(hv:cs[i]?=some v)(f:(K v).wp X P Q h):(T.sem false (Instr.index t (.agg cs) (.int k i)) K).wp X P Q h :=
 Q9 (A:=fun w h'=>w=v/\h'=h.get) (lwp_index hu e he c a hv ⟨rfl,rfl⟩) (by rintro w h' ⟨rfl,rfl⟩;exact f)
end
end Go.TM
namespace Go.Y
section
theorem Y8:(Tryz.prog.info? 29).map (fun i=>(i.size,i.bytes,i.zero))=some (1,8,some (.int .i64 0)):=by kernel_rfl
theorem inf3:(Tryz.prog.info? 3).map (fun i=>(i.size,i.bytes,i.zero))=some (1,8,some (.int .i64 0)):=by kernel_rfl
theorem Y7:(Tryz.prog.info? 55).map (fun i=>(i.size,i.bytes,i.zero))=some (1,8,some (.int .i64 0)):=by kernel_rfl
theorem Y6:(Tryz.prog.info? 75).map (fun i=>(i.size,i.bytes,i.zero))=some (4,32,some (.agg #[.int .i64 0,.int .i64 0,.int .i64 0,.int .i64 0])):=by kernel_rfl
theorem Dp:(Tryz.prog.info? 51).map (fun i=>(i.size,i.bytes,i.zero))=some (3,40,some (.agg #[.int .i64 0,.int .i64 0,.slice none 0 0])):=by kernel_rfl
theorem K0:(Tryz.prog.info? 49).map (fun i=>(i.size,i.bytes,i.zero))=some (4,48,some (.agg #[.int .i64 0,.int .i64 0,.int .i64 0,.slice none 0 0])):=by kernel_rfl
theorem inf50:(Tryz.prog.info? 47).map (fun i=>(i.size,i.bytes,i.zero))=some (1,24,some (.slice none 0 0)):=by kernel_rfl
theorem Yy:(Tryz.prog.info? 149).map (fun i=>(i.size,i.bytes,i.zero))=some (1,8,some .nilFunc):=by kernel_rfl
theorem K1:(Tryz.prog.info? 46).map (fun i=>(i.size,i.bytes,i.zero))=some (2,16,some (.agg #[.int .i64 0,.int .i64 0])):=by kernel_rfl
theorem inf4:(Tryz.prog.info? 4).map (fun i=>(i.size,i.bytes,i.zero))=some (1,1,some (.bool false)):=by kernel_rfl
theorem Yj:Tryz.prog.underlying 272=some (.slice 29):=by kernel_rfl
theorem Wh:Tryz.prog.underlying 47=some (.slice 3):=by kernel_rfl
theorem Yv:Tryz.prog.underlying 60=some (.slice 55):=by kernel_rfl
theorem Yu:Tryz.prog.underlying 63=some (.slice 75):=by kernel_rfl
theorem und24:Tryz.prog.underlying 24=some (.slice 51):=by kernel_rfl
theorem Z4:Tryz.prog.underlying 23=some (.slice 49):=by kernel_rfl
theorem Kp:Tryz.prog.underlying 22=some (.slice 46):=by kernel_rfl
theorem und104:Tryz.prog.underlying 154=some (.chan .both 47):=by kernel_rfl
theorem Yl:Tryz.prog.underlying 216=some (.slice 149):=by kernel_rfl
theorem und98:Tryz.prog.underlying 160=some (.array 4 149):=by kernel_rfl
theorem und87:Tryz.prog.underlying 149=some (.func #[158] #[29] false):=by kernel_rfl
theorem agg87:isAggT Tryz.prog 149=false:=by kernel_rfl
theorem Yk:Tryz.prog.underlying 217=some (.map 225 46):=by kernel_rfl
theorem und138:Tryz.prog.underlying 198=some (.map 3 4):=by kernel_rfl
end
section
set_option maxHeartbeats 0
set_option linter.unusedVariables false
set_option maxRecDepth 100000
variable {X:XP} {h:LH} {A:Value->LH->Prop}
variable {a b c d e f g i j k l m:Int}{n o p q r s t u v w x y z:Nat}{B C D E F G H I J K L M:Option Addr}
theorem w35:FX X 30 #[.slice B n o,.slice C p q] h A (bif (↑n:Int) != (↑p:Int) then .rt (.bool false) else .loop [false,.int .i64 0] (fun a=>.popB a fun c a=>.pi a fun b a=>.unNil a (bif decide (b<(↑n:Int)) then .need (0<=b/\b<(↑n:Int)) (.someA B fun d=>.li (d.add (b.toNat*1)) fun e=>.need (0<=b/\b<(↑p:Int)) (.someA C fun d=>.li (d.add (b.toNat*1)) fun f=>bif e != f then .rn [false,b] else .ag [c,.int .i64 (wrap .i64 (b+1))])) else .bk [c,b])) (fun a=>.popB a fun c a=>.pi a fun b a=>.unNil a (.rt (.bool true))) (fun a=>.popB a fun c a=>.pi a fun b a=>.unNil a (.rt (.bool c))) fun g i=>.fail):=fk [] [⟨0,[(4,.bool),(5,.int .i64)],[],[],[],[]⟩] [] Tryz.f30
def n49(a b c:Int):T:=bif decide (b<=a) then .rt (.bool (decide (a<=c))) else .rt (.bool false)
theorem w49(n first last:Int):FX X 87 #[n,first,last] h A (n49 n first last):=fk [] [] [] Tryz.f87
theorem w97:FX X 142 #[.slice B n o,.slice C p q] h A (.loop [.int .i64 0,.int .i64 0] (fun a=>.pi a fun c a=>.pi a fun b a=>.unNil a (bif decide (b<(↑n:Int)) then .need (0<=b/\b<(↑n:Int)) (.someA B fun d=>.li (d.add (b.toNat*1)) fun f=>bif decide (b>=(↑p:Int)) then .rn [.int .i64 1,b] else .need (0<=b/\b<(↑p:Int)) (.someA C fun d=>.li (d.add (b.toNat*1)) fun g=>.cI 171 #[f,g] fun e=>bif e != 0 then .rn [e,b] else .ag [c,.int .i64 (wrap .i64 (b+1))])) else .bk [c,b])) (fun a=>.pi a fun c a=>.pi a fun c a=>.unNil a (bif decide ((↑n:Int)<(↑p:Int)) then .rt (.int .i64 (-1)) else .rt (.int .i64 0))) (fun a=>.pi a fun c a=>.pi a fun b a=>.unNil a (.rt (.int .i64 c))) fun i j=>.fail):=fk [] [⟨0,[(4,.int .i64),(11,.int .i64)],[],[],[],[]⟩] [] Tryz.f142
theorem w100:FX X 166 #[.slice B n o,a] h A (.cI 195 #[.slice B n o,a] fun b=>.rt (.bool (decide (b>=0)))):=fk [] [] [] Tryz.f166
theorem w105:FX X 171 #[a,b] h A (.cB 197 #[a] fun d=>.cB 197 #[b] fun c=>bif d then bif c then .rt (.int .i64 0) else .rt (.int .i64 (-1)) else bif c then .rt (.int .i64 1) else bif decide (a<b) then .rt (.int .i64 (-1)) else bif decide (a>b) then .rt (.int .i64 1) else .rt (.int .i64 0)):=fk [] [] [] Tryz.f171
theorem w106:FX X 195 #[.slice B n o,a] h A (.loop [.int .i64 0,.int .i64 0] (fun b=>.pi b fun d b=>.pi b fun c b=>.unNil b (bif decide (c<(↑n:Int)) then .need (0<=c/\c<(↑n:Int)) (.someA B fun e=>.li (e.add (c.toNat*1)) fun f=>bif a==f then .rn [c,c] else .ag [d,.int .i64 (wrap .i64 (c+1))]) else .bk [d,c])) (fun b=>.pi b fun d b=>.pi b fun d b=>.unNil b (.rt (.int .i64 (-1)))) (fun b=>.pi b fun d b=>.pi b fun c b=>.unNil b (.rt (.int .i64 d))) fun g i=>.fail):=fk [] [⟨0,[(4,.int .i64),(8,.int .i64)],[],[],[],[]⟩] [] Tryz.f195
theorem w109:FX X 197 #[a] h A (.rt (.bool (a != a))):=fk [] [] [] Tryz.f197
end
section
set_option maxHeartbeats 0
set_option linter.unusedVariables false
set_option maxRecDepth 100000
variable {X:XP} {h:LH} {A:Value->LH->Prop}
variable {a b c d e f g i j k l m:Int}{n o p q r s t u v w x y z:Nat}{B C D E F G H I J K L M:Option Addr}
theorem w17:FX X 22 #[.agg #[a,b,c,d,.slice B n o,.slice C p q,.slice D r s],e] h A (.cl 73 #[e] fun f=>.nd (.agg #[a,b,c,d,.slice B n o,.slice C p q,.slice D r s]) (.sem false (Instr.buildSlice 216 1 #[(0,f)]) fun f=>.unS f fun j g k=>.nd (.agg #[a,b,c,d,.slice B n o,.slice C p q,.slice D r s]) (.cT 72 #[.agg #[a,b,c,d,.slice B n o,.slice C p q,.slice D r s],.slice j g k] fun f i=>.unP f fun j=>.unCons i fun f i=>.ui f fun g=>.unNil i (.nd g (bif g != 0 then .rt (.tuple #[.agg #[.int .i64 0,.int .i64 0],g]) else .cl 74 #[.pointer j,e] fun f=>.unAgg f fun l=>.pi l fun g i=>.pi i fun m i=>.unNil i (.rt (.tuple #[.agg #[g,m],.int .i64 0]))))))):=fk [2,4] [] [] Tryz.f22
theorem w19:FX X 23 #[.agg #[a,b,c,d,.slice B n o,.slice C p q,.slice D r s],e,f,g] h A (.cl 75 #[e] fun j=>.nds [g,f,.val (.agg #[a,b,c,d,.slice B n o,.slice C p q,.slice D r s])] (.cl 76 #[f] fun t=>.nds [g,.val (.agg #[a,b,c,d,.slice B n o,.slice C p q,.slice D r s])] (.cl 73 #[g] fun u=>.nd (.agg #[a,b,c,d,.slice B n o,.slice C p q,.slice D r s]) (.sem false (Instr.buildSlice 216 3 #[(0,j),(1,t),(2,u)]) fun j=>.unS j fun k i m=>.nd (.agg #[a,b,c,d,.slice B n o,.slice C p q,.slice D r s]) (.cT 72 #[.agg #[a,b,c,d,.slice B n o,.slice C p q,.slice D r s],.slice k i m] fun j l=>.unP j fun k=>.unCons l fun j l=>.ui j fun i=>.unNil l (.nd i (bif i != 0 then .rt (.tuple #[.int .i64 0,i]) else .cI 77 #[.pointer k,e,f,g] fun i=>.rt (.tuple #[i,.int .i64 0])))))))):=fk [4] [] [] Tryz.f23
theorem w21:FX X 24 #[.agg #[a,b,c,d,.slice B n o,.slice C p q,.slice D r s],e,f] h A (.cl 75 #[e] fun k=>.nds [f,.val (.agg #[a,b,c,d,.slice B n o,.slice C p q,.slice D r s])] (.cl 76 #[f] fun v=>.nd (.agg #[a,b,c,d,.slice B n o,.slice C p q,.slice D r s]) (.sem false (Instr.buildSlice 216 2 #[(0,k),(1,v)]) fun k=>.unS k fun m i t=>.nd (.agg #[a,b,c,d,.slice B n o,.slice C p q,.slice D r s]) (.cT 72 #[.agg #[a,b,c,d,.slice B n o,.slice C p q,.slice D r s],.slice m i t] fun k g=>.unP k fun m=>.unCons g fun k g=>.ui k fun i=>.unNil g (.nd i (bif i != 0 then .rt (.tuple #[.int .i64 0,i]) else .loop [.int .i64 0,.int .i64 0,c] (fun g=>.pi g fun i g=>.pi g fun l g=>.pi g fun j g=>.unNil g (bif decide (j<=2000) then .cI 77 #[.pointer m,e,f,j] fun u=>bif u != 1 then .rn [j,.int .i64 0,j] else .ag [i,l,.int .i64 (wrap .i64 (j+1))] else .bk [i,l,j])) (fun g=>.pi g fun i g=>.pi g fun i g=>.pi g fun i g=>.unNil g (.rt (.tuple #[.int .i64 (-1),.int .i64 0]))) (fun g=>.pi g fun i g=>.pi g fun l g=>.pi g fun j g=>.unNil g (.rt (.tuple #[i,l]))) fun w x=>.fail)))))):=fk [3] [⟨0,[(6,.int .i64),(7,.int .i64),(10,.int .i64)],[3],[],[],[]⟩] [] Tryz.f24
theorem w23:FX X 25 #[.agg #[a,b,c,d,.slice B n o,.slice C p q,.slice D r s],e,f] h A (.cl 75 #[e] fun g=>.nds [f,.val (.agg #[a,b,c,d,.slice B n o,.slice C p q,.slice D r s])] (.cl 73 #[f] fun m=>.nd (.agg #[a,b,c,d,.slice B n o,.slice C p q,.slice D r s]) (.sem false (Instr.buildSlice 216 2 #[(0,g),(1,m)]) fun g=>.unS g fun j i k=>.nd (.agg #[a,b,c,d,.slice B n o,.slice C p q,.slice D r s]) (.cT 72 #[.agg #[a,b,c,d,.slice B n o,.slice C p q,.slice D r s],.slice j i k] fun g l=>.unP g fun j=>.unCons l fun g l=>.ui g fun i=>.unNil l (.nd i (bif i != 0 then .rt (.tuple #[.slice none 0 0,i]) else .cl 78 #[.pointer j,e,f] fun g=>.unS g fun j i k=>.rt (.tuple #[.slice j i k,.int .i64 0]))))))):=fk [3] [] [] Tryz.f25
theorem w26:FX X 33 #[.agg #[a,b,c,d,.slice B n o,.slice C p q,.slice D r s]] h A (.loadV (Addr.add { block:=2,off:=0 } 0) fun i=>.loadV (Addr.add { block:=2,off:=0 } 1) fun k=>.loadV (Addr.add { block:=2,off:=0 } 2) fun l=>.loadV (Addr.add { block:=2,off:=0 } 3) fun m=>.loop [.int .i64 0,.int .i64 0] (fun e=>.pi e fun f e=>.pi e fun g e=>.unNil e (bif decide (g<4) then .sem false (Instr.index 160 (.agg #[i,k,l,m]) (.int .i64 g)) fun i=>.callv false i #[.agg #[a,b,c,d,.slice B n o,.slice C p q,.slice D r s]] fun i=>.ui i fun j=>bif j != 0 then .rn [j,g] else .ag [f,.int .i64 (wrap .i64 (g+1))] else .bk [f,g])) (fun e=>.pi e fun f e=>.pi e fun f e=>.unNil e (.rt (.int .i64 0))) (fun e=>.pi e fun f e=>.pi e fun g e=>.unNil e (.rt (.int .i64 f))) fun t u=>.fail):=fk [1] [⟨0,[(2,.int .i64),(7,.int .i64)],[1],[],[],[]⟩] [] Tryz.f33
theorem w28:FX X 26 #[.agg #[a,b,c,d,.slice B n o,.slice C p q,.slice D r s],e,f] h A (.cl 75 #[e] fun m=>.nds [f,.val (.agg #[a,b,c,d,.slice B n o,.slice C p q,.slice D r s])] (.cl 73 #[f] fun Q=>.nd (.agg #[a,b,c,d,.slice B n o,.slice C p q,.slice D r s]) (.sem false (Instr.buildSlice 216 2 #[(0,m),(1,Q)]) fun m=>.unS m fun k i j=>.nd (.agg #[a,b,c,d,.slice B n o,.slice C p q,.slice D r s]) (.cT 72 #[.agg #[a,b,c,d,.slice B n o,.slice C p q,.slice D r s],.slice k i j] fun m g=>.unP m fun k=>.unCons g fun m g=>.ui m fun i=>.unNil g (.nd i (bif i != 0 then .rt (.tuple #[.slice none 0 0,i]) else .loop [.slice none 0 0,.int .i64 0] (fun g=>.popS g fun u i j g=>.pi g fun l g=>.unNil g (bif decide (l<(↑r:Int)) then .need (0<=l/\l<(↑r:Int)) (.someA D fun v=>.li ((v.add (l.toNat*3)).add 0) fun x=>.li ((v.add (l.toNat*3)).add 1) fun K=>.loadS ((v.add (l.toNat*3)).add 2) fun O E R=>.blk (bif K != e then .leaf (.out 1 []) else bif decide (x>f) then .leaf (.out 1 []) else .ag []) (fun g=>.unNil g (.loop [.slice u i j,.int .i64 0] (fun g=>.popS g fun w i j g=>.pi g fun t g=>.unNil g (bif decide (t<(↑E:Int)) then .need (0<=t/\t<(↑E:Int)) (.someA O fun G=>.li (G.add (t.toNat*1)) fun F=>.cI 77 #[.pointer k,e,F,x] fun L=>bif L != 1 then .cl 74 #[.pointer k,x] fun m=>.unAgg m fun I=>.pi I fun M g=>.pi g fun N g=>.unNil g (.sem false (Instr.buildSlice 63 1 #[(0,.agg #[F,l,M,N])]) fun m=>.unS m fun k J H=>.sem false (Builtin.append_ #[63,63] 63 #[.slice w i j,.slice k J H]) fun m=>.unS m fun k i j=>.ag [.slice k i j,.int .i64 (wrap .i64 (t+1))]) else .ag [.slice w i j,.int .i64 (wrap .i64 (t+1))]) else .bk [.slice w i j,t])) (fun g=>.popS g fun k i j g=>.pi g fun t g=>.unNil g (.ag [.slice k i j,.int .i64 (wrap .i64 (l+1))])) (fun g=>.popS g fun k i j g=>.pi g fun t g=>.unNil g (.rn [.slice k i j,l])) fun y z=>.fail)) (fun g=>.unNil g (.rn [.slice u i j,l])) fun y z=>bif Nat.beq y 1 then .unNil z (.ag [.slice u i j,.int .i64 (wrap .i64 (l+1))]) else .fail) else .bk [.slice u i j,l])) (fun g=>.popS g fun k i j g=>.pi g fun l g=>.unNil g (.rt (.tuple #[.slice k i j,.int .i64 0]))) (fun g=>.popS g fun k i j g=>.pi g fun i g=>.unNil g (.rt (.tuple #[.slice none 0 0,.int .i64 0]))) fun y z=>.fail)))))):=fk [3,12] [⟨2,[(10,.slice),(49,.int .i64)],[3,12],[],[],[]⟩,⟨0,[(10,.slice),(31,.int .i64)],[3],[],[],[]⟩] [⟨9,[],[3,12],[1],[],[]⟩] Tryz.f26
theorem w31:FX X 28 #[.agg #[a,b,c,d,.slice B n o,.slice C p q,.slice D r s],e,f,.slice E t u] h A (.new 47 #[.slice E t u] fun k=>.cl 75 #[e] fun g=>.nds [.val (.func (Fn.func 82) #[] #[.pointer (some ⟨k,0,none⟩)]),f,.val (.agg #[a,b,c,d,.slice B n o,.slice C p q,.slice D r s])] (.cl 73 #[f] fun H=>.nds [.val (.func (Fn.func 82) #[] #[.pointer (some ⟨k,0,none⟩)]),.val (.agg #[a,b,c,d,.slice B n o,.slice C p q,.slice D r s])] (.sem false (Instr.buildSlice 216 3 #[(0,g),(1,H),(2,.func (Fn.func 82) #[] #[.pointer (some ⟨k,0,none⟩)])]) fun g=>.unS g fun j i l=>.nd (.agg #[a,b,c,d,.slice B n o,.slice C p q,.slice D r s]) (.cT 72 #[.agg #[a,b,c,d,.slice B n o,.slice C p q,.slice D r s],.slice j i l] fun g m=>.unP g fun j=>.unCons m fun g m=>.ui g fun i=>.unNil m (.nd i (bif i != 0 then .rt (.tuple #[false,i]) else .loadS ⟨k,0,none⟩ fun v i l=>.cl 78 #[.pointer j,e,f] fun g=>.unS g fun j z x=>.loadS ⟨k,0,none⟩ fun G F y=>.ne (.slice G F y) (.slice v i l) (.nds [f,e,.val (.agg #[a,b,c,d,.slice B n o,.slice C p q,.slice D r s])] (.cB 80 #[.agg #[a,b,c,d,.slice B n o,.slice C p q,.slice D r s],e,f,.slice v i l,.slice j z x] fun w=>.rt (.tuple #[w,.int .i64 0]))))))))):=fk [4] [] [] Tryz.f28
theorem w33:FX X 27 #[.agg #[a,b,c,d,.slice B n o,.slice C p q,.slice D r s],e,f] h A (.new 26 #[a,b,c,d,.slice B n o,.slice C p q,.slice D r s] fun i=>.new 3 #[e] fun R=>.new 3 #[f] fun N=>.li (Addr.add ⟨i,0,none⟩ 0) fun j=>.li (Addr.add ⟨i,0,none⟩ 1) fun F=>.li (Addr.add ⟨i,0,none⟩ 2) fun G=>.li (Addr.add ⟨i,0,none⟩ 3) fun H=>.loadS (Addr.add ⟨i,0,none⟩ 4) fun t I m=>.loadS (Addr.add ⟨i,0,none⟩ 5) fun L J z=>.loadS (Addr.add ⟨i,0,none⟩ 6) fun M K E=>.li ⟨R,0,none⟩ fun k1=>.li ⟨N,0,none⟩ fun S=>.cl 75 #[k1] fun k=>.li ⟨N,0,none⟩ fun l1=>.ne l1 S (.li (Addr.add ⟨i,0,none⟩ 0) fun j0=>.li (Addr.add ⟨i,0,none⟩ 1) fun k0=>.li (Addr.add ⟨i,0,none⟩ 2) fun l0=>.li (Addr.add ⟨i,0,none⟩ 3) fun m0=>.loadS (Addr.add ⟨i,0,none⟩ 4) fun p1 o0 b0=>.loadS (Addr.add ⟨i,0,none⟩ 5) fun q1 p0 c0=>.loadS (Addr.add ⟨i,0,none⟩ 6) fun r1 q0 d0=>.ne (.agg #[j0,k0,l0,m0,.slice p1 o0 b0,.slice q1 p0 c0,.slice r1 q0 d0]) (.agg #[j,F,G,H,.slice t I m,.slice L J z,.slice M K E]) (.cl 73 #[S] fun x1=>.li (Addr.add ⟨i,0,none⟩ 0) fun r0=>.li (Addr.add ⟨i,0,none⟩ 1) fun s0=>.li (Addr.add ⟨i,0,none⟩ 2) fun t0=>.li (Addr.add ⟨i,0,none⟩ 3) fun u0=>.loadS (Addr.add ⟨i,0,none⟩ 4) fun s1 v0 e0=>.loadS (Addr.add ⟨i,0,none⟩ 5) fun t1 x0 f0=>.loadS (Addr.add ⟨i,0,none⟩ 6) fun u1 y0 g0=>.ne (.agg #[r0,s0,t0,u0,.slice s1 v0 e0,.slice t1 x0 f0,.slice u1 y0 g0]) (.agg #[j,F,G,H,.slice t I m,.slice L J z,.slice M K E]) (.sem false (Instr.buildSlice 216 2 #[(0,k),(1,x1)]) fun k=>.unS k fun l z0 i0=>.li (Addr.add ⟨i,0,none⟩ 0) fun a1=>.li (Addr.add ⟨i,0,none⟩ 1) fun b1=>.li (Addr.add ⟨i,0,none⟩ 2) fun c1=>.li (Addr.add ⟨i,0,none⟩ 3) fun d1=>.loadS (Addr.add ⟨i,0,none⟩ 4) fun v1 e1 Y=>.loadS (Addr.add ⟨i,0,none⟩ 5) fun m1 f1 Z=>.loadS (Addr.add ⟨i,0,none⟩ 6) fun o1 g1 a0=>.ne (.agg #[a1,b1,c1,d1,.slice v1 e1 Y,.slice m1 f1 Z,.slice o1 g1 a0]) (.agg #[j,F,G,H,.slice t I m,.slice L J z,.slice M K E]) (.cT 72 #[.agg #[j,F,G,H,.slice t I m,.slice L J z,.slice M K E],.slice l z0 i0] fun k g=>.unP k fun l=>.unCons g fun k g=>.ui k fun j=>.unNil g (.nd j (bif j != 0 then .rt (.tuple #[.slice none 0 0,j]) else .li ⟨R,0,none⟩ fun j=>.li ⟨N,0,none⟩ fun i1=>.cl 78 #[.pointer l,j,i1] fun k=>.unS k fun l j m=>.new 60 #[.slice none 0 0] fun U=>.store (Addr.add ⟨U,0,none⟩ 0) (.slice l j m) (.sem false (Instr.makeChan 154 (.int .i64 0)) fun k=>.unC k fun l=>.new 154 #[.chan none] fun O=>.store (Addr.add ⟨O,0,none⟩ 0) (.chan l) (.loadS (Addr.add ⟨i,0,none⟩ 5) fun t j m=>.need (0<=(↑j:Int)) (.loop [.int .i64 0] (fun g=>.pi g fun y g=>.unNil g (bif decide (y<wrap .i64 (1*2^min (Int.toNat (↑j:Int)) 64)) then .new 3 #[.int .i64 0] fun V=>.store (Addr.add ⟨V,0,none⟩ 0) (.int .i64 y) (.spawn (.func (Fn.func 79) #[] #[.pointer (some ⟨i,0,none⟩),.pointer (some ⟨V,0,none⟩),.pointer (some ⟨R,0,none⟩),.pointer (some ⟨N,0,none⟩),.pointer (some ⟨U,0,none⟩),.pointer (some ⟨O,0,none⟩)]) #[] (.ag [.int .i64 (wrap .i64 (y+1))])) else .bk [y])) (fun g=>.pi g fun y g=>.unNil g (.loop [.slice none 0 0,.int .i64 0] (fun g=>.popS g fun l u m g=>.pi g fun v g=>.unNil g (bif decide (v<wrap .i64 (1*2^min (Int.toNat (↑j:Int)) 64)) then .loadC ⟨O,0,none⟩ fun t=>.comm false #[{ chan:=.chan t,send:=none,zero:=.slice none 0 0 }] (CommShape.recv false) fun k=>.unS k fun w j x=>.sem false (Sem.bind (eqGuard BinOp.neq 47 (Operand.tmp 49) (Operand.const (.slice none 0 0)) (.slice w j x) (.slice none 0 0)) fun W=>binOp BinOp.neq 47 (.slice w j x) (.slice none 0 0)) fun k=>.unB k fun Q=>bif Q then .sem false (Sem.bind (eqGuard BinOp.eql 47 (Operand.tmp 52) (Operand.const (.slice none 0 0)) (.slice l u m) (.slice none 0 0)) fun W=>binOp BinOp.eql 47 (.slice l u m) (.slice none 0 0)) fun k=>.unB k fun Q=>bif Q then .ag [.slice w j x,.int .i64 (wrap .i64 (v+1))] else .cI 81 #[.slice w j x,.slice l u m] fun j1=>bif decide (j1<0) then .ag [.slice w j x,.int .i64 (wrap .i64 (v+1))] else .ag [.slice l u m,.int .i64 (wrap .i64 (v+1))] else .ag [.slice l u m,.int .i64 (wrap .i64 (v+1))] else .bk [.slice l u m,v])) (fun g=>.popS g fun l j m g=>.pi g fun u g=>.unNil g (.loadC ⟨O,0,none⟩ fun t=>.sem false (Builtin.close_ #[154] 0 #[.chan t]) fun k=>.rt (.tuple #[.slice l j m,.int .i64 0]))) (fun g=>.popS g fun l j m g=>.pi g fun j g=>.unNil g (.rt (.tuple #[.slice none 0 0,.int .i64 0]))) fun y1 z1=>.fail)) (fun g=>.pi g fun j g=>.unNil g (.rt (.tuple #[.slice none 0 0,.int .i64 0]))) fun y1 z1=>.fail)))))))))):=fk [] [⟨0,[(39,.int .i64)],[],[],[],[]⟩,⟨2,[(14,.slice),(45,.int .i64)],[],[],[],[]⟩] [] Tryz.f27
theorem w53:FX X 72 #[.agg #[a,b,c,d,.slice B n o,.slice C p q,.slice D r s],.slice E t u] h A (.cI 33 #[.agg #[a,b,c,d,.slice B n o,.slice C p q,.slice D r s]] fun f=>bif f != 0 then .rt (.tuple #[.pointer none,f]) else .loop [.pointer none,.int .i64 0,.int .i64 0] (fun e=>.popP e fun g e=>.pi e fun f e=>.pi e fun i e=>.unNil e (bif decide (i<(↑t:Int)) then .need (0<=i/\i<(↑t:Int)) (.someA E fun v=>.loadV (v.add (i.toNat*1)) fun k=>.callv false k #[.agg #[a,b,c,d,.slice B n o,.slice C p q,.slice D r s]] fun k=>.ui k fun j=>bif j != 0 then .rn [.pointer none,j,i] else .ag [.pointer g,f,.int .i64 (wrap .i64 (i+1))]) else .bk [.pointer g,f,i])) (fun e=>.popP e fun g e=>.pi e fun f e=>.pi e fun i e=>.unNil e (.sem false (Instr.makeMap 217 none) fun k=>.unM k fun v=>.sem false (Instr.build 220 #[(0,.agg #[a,b,c,d,.slice B n o,.slice C p q,.slice D r s]),(2,.map v)]) fun k=>.new 220 (Value.cells k) fun l=>.loop [.int .i64 0] (fun e=>.pi e fun f e=>.unNil e (bif decide (f<2001) then .new 3 #[.int .i64 0] fun m=>.store (Addr.add ⟨m,0,none⟩ 0) (.int .i64 f) (.li ⟨m,0,none⟩ fun j=>.someA (some ⟨l,0,none⟩) fun g=>.cB 131 #[.slice B n o,.func (Fn.func 132) #[] #[.pointer (some ⟨m,0,none⟩)]] fun y=>.nO (g.add 7) (.someA (some ⟨l,0,none⟩) fun w=>.nq w g (.np 2 4 (.li ⟨m,0,none⟩ fun z=>.ne z j (.nd (.pointer (some ⟨l,0,none⟩)) (.need (0<=j/\j<(↑2001:Int)) (.store (((g.add 7).add (j.toNat*1)).add 0) (.bool !y) (.nO (g.add 7) (.someA (some ⟨l,0,none⟩) fun x=>.nq x g (.ag [.int .i64 (wrap .i64 (f+1))])))))))))) else .bk [f])) (fun e=>.pi e fun f e=>.unNil e (.rt (.tuple #[.pointer (some ⟨l,0,none⟩),.int .i64 0]))) (fun e=>.pi e fun j e=>.unNil e (.rt (.tuple #[.pointer g,f]))) fun F G=>.fail)) (fun e=>.popP e fun g e=>.pi e fun f e=>.pi e fun i e=>.unNil e (.rt (.tuple #[.pointer g,f]))) fun F G=>.fail):=fk [2] [⟨0,[(4,.ptr),(5,.int .i64),(19,.int .i64)],[2],[],[],[]⟩,⟨2,[(36,.int .i64)],[2],[],[],[]⟩] [] Tryz.f72
theorem w54:FX X 73 #[a] h A (.new 3 #[a] fun b=>.rt (.func (Fn.func 134) #[] #[.pointer (some ⟨b,0,none⟩)])):=fk [] [] [] Tryz.f73
theorem w55:FX X 74 #[.pointer B,a] h A (.someA B fun d=>.li (((d.add 0).add 0).add 3) fun c=>.blk (.someA B fun d=>.loadM (d.add 2008) fun l=>.both (.sem false (Instr.lookup 217 (.map l) (.agg #[a,c]) true) fun e=>.unTup e fun k=>.unCons k fun e b=>.unAgg e fun k=>.pi k fun c o=>.pi o fun i p=>.unNil p (.unCons b fun e b=>.unB e fun g=>.unNil b (.nO (d.add 2008) (.someA B fun m=>.nq m d (.nds [.val (.pointer B),g,.val (.agg #[c,i]),.val (.tuple #[.agg #[c,i],g]),.O (d.add 2008)] (.someA B fun n=>.nq n d (.nds [.val (.pointer B),g] (bif g then .rn [c,i] else .ag [.int .i64 0,.int .i64 0])))))))) (.nd (.agg #[a,c]) (.loadM (d.add 2008) fun u=>.ne (.map u) (.map l) (.nO (d.add 2008) (.someA B fun m=>.nq m d (.nd (.pointer B) (.sem false (Instr.lookup 217 (.map l) (.agg #[a,c]) true) fun e=>.unTup e fun k=>.unCons k fun e b=>.unAgg e fun k=>.pi k fun c o=>.pi o fun i p=>.unNil p (.unCons b fun e b=>.unB e fun g=>.unNil b (.nO (d.add 2008) (.someA B fun n=>.nq n d (.nds [.val (.pointer B),g] (bif g then .rn [c,i] else .ag [.int .i64 0,.int .i64 0])))))))))))) (fun b=>.pi b fun i b=>.pi b fun s b=>.unNil b (.someA B fun d=>.li (((d.add 0).add 0).add 3) fun t=>.loop [t,a,a] (fun b=>.pi b fun c b=>.pi b fun f b=>.pi b fun j b=>.unNil b (bif decide (f>0) then .someA B fun d=>.need (0<=f/\f<(↑2001:Int)) (.loadB ((d.add 7).add (f.toNat*1)) fun g=>bif g then bif wrap .i64 (c-1)==0 then .bk [.int .i64 (wrap .i64 (c-1)),f,j] else .ag [.int .i64 (wrap .i64 (c-1)),.int .i64 (wrap .i64 (f-1)),j] else bif c==0 then .bk [c,f,j] else .ag [c,.int .i64 (wrap .i64 (f-1)),j]) else .bk [c,f,j])) (fun b=>.pi b fun f b=>.pi b fun j b=>.pi b fun q b=>.unNil b (.someA B fun d=>.loadM (d.add 2008) fun l=>.sem false (Sem.bind (Instr.mapUpdate 217 (.map l) (.agg #[a,c]) (.agg #[j,q])) fun w=>pure (.tuple #[])) fun r=>.rt (.agg #[j,q]))) (fun b=>.pi b fun c b=>.pi b fun c b=>.pi b fun c b=>.unNil b (.rt (.agg #[i,s]))) fun r v=>.fail)) (fun b=>.pi b fun c b=>.pi b fun i b=>.unNil b (.rt (.agg #[c,i]))) fun r v=>.fail):=fk [4,5,6,8] [⟨0,[(9,.int .i64),(36864,.int .i64),(36865,.int .i64)],[4,5,6],[],[],[]⟩] [⟨5,[(20480,.int .i64),(20481,.int .i64)],[5],[],[],[]⟩] Tryz.f74
theorem w58:FX X 75 #[a] h A (.new 3 #[a] fun b=>.rt (.func (Fn.func 137) #[] #[.pointer (some ⟨b,0,none⟩)])):=fk [] [] [] Tryz.f75
theorem w59:FX X 76 #[a] h A (.new 3 #[a] fun b=>.rt (.func (Fn.func 139) #[] #[.pointer (some ⟨b,0,none⟩)])):=fk [] [] [] Tryz.f76
theorem w60:FX X 77 #[.pointer B,a,b,c] h A (.cl 74 #[.pointer B,c] fun j=>.unAgg j fun m=>.pi m fun e d=>.pi d fun g d=>.unNil d (.someA B fun k=>.li (((k.add 0).add 0).add 2) fun q=>.cB 133 #[q,e,g] fun l=>.nds [.pp 9 1,.pp 9 0,.val (.pointer (some (((k.add 0).add 0).add 2))),.O ((k.add 0).add 0),.O (k.add 0)] (.someA B fun p=>.nq p k (.nd (.pointer B) (bif l then .rt (.int .i64 1) else .cl 140 #[.pointer B,a,b] fun j=>.each j [.int .i64 0,.int .i64 2] (fun w d=>.unCons w fun j r=>.unAgg j fun m=>.pi m fun i s=>.pi s fun f t=>.pi t fun z u=>.popS u fun k C y v=>.unNil v (.unNil r (.pi d fun n d=>.pi d fun o d=>.unNil d (.nds [.val (.int .i64 (if f<g then f else g)),f,.pp 11 1,.pp 11 0,g,.pp 9 1] (.sem false (Sem.bind (eqGuard BinOp.eql 46 (Operand.tmp 47) (Operand.tmp 49) (.agg #[.int .i64 (if i>e then i else e),.int .i64 (if f<g then f else g)]) (.agg #[i,f])) fun x=>binOp BinOp.eql 46 (.agg #[.int .i64 (if i>e then i else e),.int .i64 (if f<g then f else g)]) (.agg #[i,f])) fun j=>.unB j fun l=>bif l then .rn [.int .i64 1,o] else bif decide ((if i>e then i else e)<=if f<g then f else g) then .ag [n,.int .i64 0] else .ag [n,o]))))) (fun d=>.pi d fun e d=>.pi d fun e d=>.unNil d (.rt (.int .i64 e))) (fun d=>.pi d fun e d=>.pi d fun e d=>.unNil d (.rt (.int .i64 e))) (fun d=>.pi d fun e d=>.pi d fun i d=>.unNil d (.rt (.int .i64 e))) fun D E=>.fail))))):=fk [8,9,10,11] [{ id:=0,slots:=[(36864,.int .i64),(45056,.int .i64)],ro:=[9],outs:=[],ps:=[.agg [.int .i64,.int .i64,.int .i64,.slice]] }] [] Tryz.f77
theorem w63:FX X 78 #[.pointer B,a,b] h A (.someA B fun e=>.li (((e.add 0).add 0).add 0) fun d=>.loop [.slice none 0 0,.int .i64 0] (fun c=>.popS c fun e i f c=>.pi c fun g c=>.unNil c (bif decide (g<d) then .cI 141 #[.pointer B,a,g,b] fun d=>.sem false (Instr.buildSlice 60 1 #[(0,.int .i64 d)]) fun j=>.unS j fun k d l=>.sem false (Builtin.append_ #[60,60] 60 #[.slice e i f,.slice k d l]) fun j=>.unS j fun e d f=>.ag [.slice e d f,.int .i64 (wrap .i64 (g+1))] else .bk [.slice e i f,g])) (fun c=>.popS c fun e d f c=>.pi c fun i c=>.unNil c (.rt (.slice e d f))) (fun c=>.popS c fun e d f c=>.pi c fun d c=>.unNil c (.rt (.slice none 0 0))) fun m n=>.fail):=fk [] [⟨0,[(7,.slice),(15,.int .i64)],[],[],[],[]⟩] [] Tryz.f78
theorem w69{f:Addr}:FX X 82 #[.agg #[a,b,c,d,.slice B n o,.slice C p q,.slice D r s],.pointer (some f)] h A (.loadS f fun i e g=>.cI 83 #[.slice i e g,.int .i64 (↑p:Int)] fun e=>.rt (.int .i64 e)):=fk [2] [] [] Tryz.f82
theorem w70:FX X 83 #[.slice B n o,a] h A (.new 47 #[.slice B n o] fun c=>.new 3 #[a] fun g=>.loadS ⟨c,0,none⟩ fun f b d=>.loadS ⟨c,0,none⟩ fun j e i=>.cI 143 #[.slice f b d,.int .i64 (↑e:Int),.func (Fn.func 144) #[] #[.pointer (some ⟨g,0,none⟩),.pointer (some ⟨c,0,none⟩)]] fun b=>.rt (.int .i64 b)):=fk [] [] [] Tryz.f83
theorem w71:FX X 80 #[.agg #[a,b,c,d,.slice B n o,.slice C p q,.slice D r s],e,f,.slice E t u,.slice F v w] h A (.loop [.int .i64 0,a,b,c,d,.slice B n o,.slice none 0 0,.slice D r s] (fun g=>.pi g fun i g=>.pi g fun L g=>.pi g fun M g=>.pi g fun N g=>.pi g fun O g=>.popS g fun k Q x g=>.popS g fun G I H g=>.popS g fun J l K g=>.unNil g (bif decide (i<(↑t:Int)) then .need (0<=i/\i<(↑t:Int)) (.someA E fun R=>.li (R.add (i.toNat*1)) fun j=>.need (0<=j/\j<(↑p:Int)) (.someA C fun y=>.li ((y.add (j.toNat*4)).add 0) fun g0=>.li ((y.add (j.toNat*4)).add 1) fun b0=>.li ((y.add (j.toNat*4)).add 2) fun c0=>.loadS ((y.add (j.toNat*4)).add 3) fun i0 d0 Y=>.sem false (Instr.buildSlice 23 1 #[(0,.agg #[g0,b0,c0,.slice i0 d0 Y])]) fun m=>.unS m fun S e0 Z=>.need (0<=j/\j<(↑p:Int)) (.someA C fun U=>.ne (.pointer (some (U.add (j.toNat*4)))) (.pointer (some (y.add (j.toNat*4)))) (.nds [j,.S C p q,.pp 5 5,.S G I H,.pp 11 5] (.sem false (Builtin.append_ #[23,23] 23 #[.slice G I H,.slice S e0 Z]) fun m=>.unS m fun V f0 a0=>.need (0<=j/\j<(↑p:Int)) (.someA C fun W=>.ne (.pointer (some (W.add (j.toNat*4)))) (.pointer (some (y.add (j.toNat*4)))) (.nds [j,.S C p q,.pp 5 5,.pp 11 5] (.ag [.int .i64 (wrap .i64 (i+1)),L,M,N,O,.slice k Q x,.slice V f0 a0,.slice J l K])))))))) else .bk [i,L,M,N,O,.slice k Q x,.slice G I H,.slice J l K])) (fun g=>.pi g fun i g=>.pi g fun i g=>.pi g fun L g=>.pi g fun M g=>.pi g fun N g=>.popS g fun k O x g=>.popS g fun G Q H g=>.popS g fun J I K g=>.unNil g (.cT 72 #[.agg #[i,L,M,N,.slice k O x,.slice G Q H,.slice J I K],.slice none 0 0] fun m g=>.unP m fun k=>.unCons g fun m g=>.ui m fun i=>.unNil g (bif i != 0 then .rt (.bool false) else .cl 78 #[.pointer k,e,f] fun m=>.unS m fun k i x=>.loop [false,.int .i64 0] (fun g=>.popB g fun z g=>.pi g fun l g=>.unNil g (bif decide (l<(↑i:Int)) then .need (0<=l/\l<(↑i:Int)) (.someA k fun k=>.li (k.add (l.toNat*1)) fun i=>.need (0<=l/\l<(↑v:Int)) (.someA F fun k=>.li (k.add (l.toNat*1)) fun j=>bif j==1 then bif i != 1 then .rn [false,l] else .ag [z,.int .i64 (wrap .i64 (l+1))] else .ag [z,.int .i64 (wrap .i64 (l+1))])) else .bk [z,l])) (fun g=>.popB g fun z g=>.pi g fun i g=>.unNil g (.rt (.bool true))) (fun g=>.popB g fun z g=>.pi g fun i g=>.unNil g (.rt (.bool z))) fun j0 k0=>.fail))) (fun g=>.pi g fun i g=>.pi g fun i g=>.pi g fun i g=>.pi g fun i g=>.pi g fun i g=>.popS g fun k i x g=>.popS g fun k i x g=>.popS g fun k i x g=>.unNil g (.rt (.bool false))) fun j0 k0=>.fail):=fk [5,11] [⟨0,[(22,.int .i64),(49152,.int .i64),(49153,.int .i64),(49154,.int .i64),(49155,.int .i64),(49156,.slice),(49157,.slice),(49158,.slice)],[5],[],[],[]⟩,⟨2,[(10,.bool),(49,.int .i64)],[5,11],[],[],[]⟩] [] Tryz.f80
def n74(f F G H I m:Addr):T:=.sem false (Instr.buildSlice 47 0 #[]) fun g=>.unS g fun c b d=>.loadS (f.add 5) fun i s J=>.loop [.slice c b d,.int .i64 0] (fun a=>.popS a fun c b d a=>.pi a fun e a=>.unNil a (bif decide (e<(↑s:Int)) then .li F fun k=>.need (0<=e) (bif wrap .i64 (↑(BitVec.toNat (BitVec.ofInt 64 (Int.fdiv k (2^min (e.toNat) 64)) &&& BitVec.ofInt 64 1)):Int)==1 then .sem false (Instr.buildSlice 47 1 #[(0,.int .i64 e)]) fun g=>.unS g fun n l j=>.sem false (Builtin.append_ #[47,47] 47 #[.slice c b d,.slice n l j]) fun g=>.unS g fun c b d=>.ag [.slice c b d,.int .i64 (wrap .i64 (e+1))] else .ag [.slice c b d,.int .i64 (wrap .i64 (e+1))]) else .bk [.slice c b d,e])) (fun a=>.popS a fun c b d a=>.pi a fun e a=>.unNil a (.li (f.add 0) fun k=>.li (f.add 1) fun l=>.li (f.add 2) fun w=>.li (f.add 3) fun x=>.loadS (f.add 4) fun i y j=>.loadS (f.add 5) fun C z p=>.loadS (f.add 6) fun D B q=>.li G fun t=>.li H fun u=>.loadS I fun E v r=>.cB 80 #[.agg #[k,l,w,x,.slice i y j,.slice C z p,.slice D B q],t,u,.slice c b d,.slice E v r] fun o=>bif !o then .loadC m fun i=>.comm true #[{ chan:=.chan i,send:=some (.slice none 0 0),zero:=.tuple #[] }] CommShape.send fun g=>.rt (.tuple #[]) else .loadC m fun i=>.comm true #[{ chan:=.chan i,send:=some (.slice c b d),zero:=.tuple #[] }] CommShape.send fun g=>.rt (.tuple #[]))) (fun a=>.popS a fun c b d a=>.pi a fun b a=>.unNil a (.rt (.tuple #[]))) fun K L=>.fail
theorem w74(z0 z1 z2 z3 z4 z5:Addr)(hX:XOK X)(hw:(n74 z0 z1 z2 z3 z4 z5).wp X Tryz.prog (retQ A) h):FWK X Tryz.prog .deferred 79 #[.pointer (some z0),.pointer (some z1),.pointer (some z2),.pointer (some z3),.pointer (some z4),.pointer (some z5)] h A:=fwk_neat (show ftree ({ P:=Tryz.prog,priv:=[],loops:=[{ id:=0,slots:=[(6,.slice),(12,.int .i64)],ro:=[],outs:=[] }],joins:=[],kd:=.deferred }) Tryz.f79 [.pointer (some z0),.pointer (some z1),.pointer (some z2),.pointer (some z3),.pointer (some z4),.pointer (some z5)]=n74 z0 z1 z2 z3 z4 z5 by kernel_rfl) (by simp) (by kernel_rfl) (by kernel_rfl) hX hw
theorem w75:FX X 81 #[.slice B n o,.slice C p q] h A (bif (↑n:Int) != (↑p:Int) then .rt (.int .i64 (wrap .i64 ((↑n:Int)-(↑p:Int)))) else .cI 142 #[.slice B n o,.slice C p q] fun a=>.rt (.int .i64 a)):=fk [] [] [] Tryz.f81
theorem w79{a:Value}:FX X 131 #[.slice B n o,a] h A (.cI 167 #[.slice B n o,a] fun b=>.rt (.bool (decide (b>=0)))):=fk [] [] [] Tryz.f131
theorem w80{c:Addr}:FX X 132 #[.agg #[a,b],.pointer (some c)] h A (.li c fun e=>.cB 133 #[e,a,b] fun d=>.rt (.bool d)):=fk [2] [] [] Tryz.f132
theorem w81:FX X 133 #[a,b,c] h A (bif decide (b<=a) then .rt (.bool (decide (a<=c))) else .rt (.bool false)):=fk [] [] [] Tryz.f133
theorem w82{f:Addr}:FX X 134 #[.agg #[a,b,c,d,.slice B n o,.slice C p q,.slice D r s],.pointer (some f)] h A (.li f fun e=>.cB 136 #[e] fun g=>.cI 135 #[.bool !g,.int .i64 1] fun e=>.rt (.int .i64 e)):=fk [2] [] [] Tryz.f134
theorem w83{b:Bool}:FX X 135 #[b,a] h A (bif b then .rt (.int .i64 a) else .rt (.int .i64 0)):=fk [] [] [] Tryz.f135
theorem w84:FX X 136 #[a] h A (.cB 133 #[a,.int .i64 0,.int .i64 2000] fun b=>.rt (.bool b)):=fk [] [] [] Tryz.f136
theorem w85{f:Addr}:FX X 137 #[.agg #[a,b,c,d,.slice B n o,.slice C p q,.slice D r s],.pointer (some f)] h A (.li f fun e=>.cB 138 #[.agg #[a,b,c,d,.slice B n o,.slice C p q,.slice D r s],e] fun g=>.cI 135 #[.bool !g,.int .i64 6] fun e=>.rt (.int .i64 e)):=fk [2] [] [] Tryz.f137
theorem w86:FX X 138 #[.agg #[a,b,c,d,.slice B n o,.slice C p q,.slice D r s],e] h A (.cB 133 #[e,.int .i64 0,.int .i64 (wrap .i64 (b-1))] fun f=>.rt (.bool f)):=fk [2] [] [] Tryz.f138
theorem w87{f:Addr}:FX X 139 #[.agg #[a,b,c,d,.slice B n o,.slice C p q,.slice D r s],.pointer (some f)] h A (.li f fun e=>.cB 133 #[e,.int .i64 0,.int .i64 (wrap .i64 (a-1))] fun g=>.cI 135 #[.bool !g,.int .i64 6] fun e=>.rt (.int .i64 e)):=fk [2] [] [] Tryz.f139
theorem w88:FX X 140 #[.pointer B,a,b] h A (.new 146 #[.pointer B] fun c=>.new 3 #[a] fun d=>.new 3 #[b] fun e=>.rt (.func (Fn.func 168) #[] #[.pointer (some ⟨c,0,none⟩),.pointer (some ⟨d,0,none⟩),.pointer (some ⟨e,0,none⟩)])):=fk [] [] [] Tryz.f140
theorem w91:FX X 141 #[.pointer B,a,b,c] h A (.cl 169 #[.pointer B,a,b,c] fun k=>.unS k fun i f j=>.loop [true,.int .i64 0] (fun d=>.popB d fun g d=>.pi d fun e d=>.unNil d (bif decide (e<(↑f:Int)) then .need (0<=e/\e<(↑f:Int)) (.someA i fun i=>.li ((i.add (e.toNat*3)).add 0) fun f=>.li ((i.add (e.toNat*3)).add 1) fun l=>.loadS ((i.add (e.toNat*3)).add 2) fun n m j=>.cI 77 #[.pointer B,a,b,f] fun f=>bif f != 1 then .bk [false,e] else .ag [g,.int .i64 (wrap .i64 (e+1))]) else .bk [g,e])) (fun d=>.popB d fun g d=>.pi d fun e d=>.unNil d (bif g then .rt (.int .i64 1) else .cB 170 #[.pointer B,a,b,.slice i f j] fun g=>bif g then .rt (.int .i64 2) else .rt (.int .i64 0))) (fun d=>.popB d fun g d=>.pi d fun f d=>.unNil d (.rt (.int .i64 0))) fun o p=>.fail):=fk [12] [⟨0,[(10,.bool),(20,.int .i64)],[],[],[],[]⟩] [] Tryz.f141
theorem w94{e:Value}:FX X 143 #[.slice B n o,a,e] h A (bif decide ((↑n:Int)>a) then .rt (.int .i64 2) else .loop [.int .i64 0,.int .i64 0] (fun b=>.pi b fun d b=>.pi b fun c b=>.unNil b (bif decide (c<(↑n:Int)) then .need (0<=c/\c<(↑n:Int)) (.someA B fun g=>.li (g.add (c.toNat*1)) fun i=>.callv false e #[c,i] fun j=>.ui j fun f=>bif f != 0 then .rn [f,c] else .ag [d,.int .i64 (wrap .i64 (c+1))]) else .bk [d,c])) (fun b=>.pi b fun d b=>.pi b fun d b=>.unNil b (.rt (.int .i64 0))) (fun b=>.pi b fun d b=>.pi b fun c b=>.unNil b (.rt (.int .i64 d))) fun k l=>.fail):=fk [] [⟨0,[(6,.int .i64),(16,.int .i64)],[],[],[],[]⟩] [] Tryz.f143
theorem w95{g:Addr}{i:Addr}:FX X 144 #[a,b,.pointer (some g),.pointer (some i)] h A (.li g fun k=>.cB 133 #[b,.int .i64 0,.int .i64 (wrap .i64 (k-1))] fun j=>.cI 135 #[.bool !j,.int .i64 6] fun f=>bif decide (a>0) then .loadS i fun n l d=>.need ((0<=if wrap .i64 (a-1)>0 then wrap .i64 (a-1) else 0)/\(if wrap .i64 (a-1)>0 then wrap .i64 (a-1) else 0)<(↑l:Int)) (.someA n fun c=>.li (c.add ((if wrap .i64 (a-1)>0 then wrap .i64 (a-1) else 0).toNat*1)) fun m=>.cI 135 #[.bool (decide (b<=m)),.int .i64 7] fun b=>.sem false (Instr.buildSlice 272 2 #[(0,.int .i64 f),(1,.int .i64 b)]) fun e=>.unS e fun c b d=>.cI 145 #[.slice c b d] fun b=>.rt (.int .i64 b)) else .cI 135 #[false,.int .i64 7] fun b=>.sem false (Instr.buildSlice 272 2 #[(0,.int .i64 f),(1,.int .i64 b)]) fun e=>.unS e fun c b d=>.cI 145 #[.slice c b d] fun b=>.rt (.int .i64 b)):=fk [] [] [] Tryz.f144
theorem w96:FX X 145 #[.slice B n o] h A (.loop [.int .i64 0,.int .i64 0] (fun a=>.pi a fun c a=>.pi a fun b a=>.unNil a (bif decide (b<(↑n:Int)) then .need (0<=b/\b<(↑n:Int)) (.someA B fun e=>.li (e.add (b.toNat*1)) fun d=>bif d != 0 then .rn [d,b] else .ag [c,.int .i64 (wrap .i64 (b+1))]) else .bk [c,b])) (fun a=>.pi a fun c a=>.pi a fun c a=>.unNil a (.rt (.int .i64 0))) (fun a=>.pi a fun c a=>.pi a fun b a=>.unNil a (.rt (.int .i64 c))) fun f g=>.fail):=fk [] [⟨0,[(2,.int .i64),(7,.int .i64)],[],[],[],[]⟩] [] Tryz.f145
theorem w98{e:Value}:FX X 167 #[.slice B n o,e] h A (.loop [.int .i64 0,.int .i64 0] (fun a=>.pi a fun c a=>.pi a fun b a=>.unNil a (bif decide (b<(↑n:Int)) then .need (0<=b/\b<(↑n:Int)) (.someA B fun d=>.li ((d.add (b.toNat*2)).add 0) fun g=>.li ((d.add (b.toNat*2)).add 1) fun i=>.callv false e #[.agg #[g,i]] fun j=>.unB j fun f=>bif f then .rn [b,b] else .ag [c,.int .i64 (wrap .i64 (b+1))]) else .bk [c,b])) (fun a=>.pi a fun c a=>.pi a fun c a=>.unNil a (.rt (.int .i64 (-1)))) (fun a=>.pi a fun c a=>.pi a fun b a=>.unNil a (.rt (.int .i64 c))) fun k l=>.fail):=fk [] [⟨0,[(4,.int .i64),(8,.int .i64)],[],[],[],[]⟩] [] Tryz.f167
theorem w99{k:Value}{l:Addr}{m:Addr}{n:Addr}:FX X 168 #[k,.pointer (some l),.pointer (some m),.pointer (some n)] h A (.loadP l fun e=>.someA e fun c=>.loadS (((c.add 0).add 0).add 5) fun e d g=>.loop [.int .i64 0] (fun b=>.pi b fun a b=>.unNil b (bif decide (a<(↑d:Int)) then .need (0<=a/\a<(↑d:Int)) (.someA e fun c=>.li ((c.add (a.toNat*4)).add 0) fun d=>.li ((c.add (a.toNat*4)).add 1) fun o=>.li ((c.add (a.toNat*4)).add 2) fun i=>.loadS ((c.add (a.toNat*4)).add 3) fun e j g=>.li m fun p=>bif i==p then .li n fun q=>.cB 166 #[.slice e j g,q] fun f=>bif f then .callv false k #[.agg #[d,o,i,.slice e j g]] fun r=>.unB r fun f=>bif !f then .rn [a] else .ag [.int .i64 (wrap .i64 (a+1))] else .ag [.int .i64 (wrap .i64 (a+1))] else .ag [.int .i64 (wrap .i64 (a+1))]) else .bk [a])) (fun b=>.pi b fun d b=>.unNil b (.rt (.tuple #[]))) (fun b=>.pi b fun d b=>.unNil b (.rt (.tuple #[]))) fun s t=>.fail):=fk [6] [⟨0,[(14,.int .i64)],[],[],[],[]⟩] [] Tryz.f168
theorem w101:FX X 169 #[.pointer B,a,b,c] h A (.someA B fun f=>.loadS (((f.add 0).add 0).add 6) fun k e g=>.loop [.slice none 0 0,.int .i64 0] (fun d=>.popS d fun f j g d=>.pi d fun i d=>.unNil d (bif decide (i<(↑e:Int)) then .need (0<=i/\i<(↑e:Int)) (.someA k fun l=>.li ((l.add (i.toNat*3)).add 0) fun e=>.li ((l.add (i.toNat*3)).add 1) fun o=>.loadS ((l.add (i.toNat*3)).add 2) fun k p n=>bif o==a then bif decide (e<=c) then .cB 166 #[.slice k p n,b] fun r=>bif r then .sem false (Instr.buildSlice 24 1 #[(0,.agg #[e,o,.slice k p n])]) fun m=>.unS m fun q e s=>.sem false (Builtin.append_ #[24,24] 24 #[.slice f j g,.slice q e s]) fun m=>.unS m fun f e g=>.ag [.slice f e g,.int .i64 (wrap .i64 (i+1))] else .ag [.slice f j g,.int .i64 (wrap .i64 (i+1))] else .ag [.slice f j g,.int .i64 (wrap .i64 (i+1))] else .ag [.slice f j g,.int .i64 (wrap .i64 (i+1))]) else .bk [.slice f j g,i])) (fun d=>.popS d fun f e g d=>.pi d fun j d=>.unNil d (.rt (.slice f e g))) (fun d=>.popS d fun f e g d=>.pi d fun e d=>.unNil d (.rt (.slice none 0 0))) fun t u=>.fail):=fk [11] [⟨0,[(9,.slice),(19,.int .i64)],[],[],[],[]⟩] [] Tryz.f169
theorem w102:FX X 170 #[.pointer B,a,b,.slice C n o] h A (.need (0<=(↑n:Int)) (.blk (.someA B fun c=>.li (((c.add 0).add 0).add 2) fun e=>.both (.sem false (Instr.makeMap 198 none) fun f=>.unM f fun j=>.li (((c.add 0).add 0).add 2) fun r=>.ne r e (.nds [.val (.pointer (some (((c.add 0).add 0).add 2))),.O ((c.add 0).add 0),.O (c.add 0)] (.someA B fun k=>.nq k c (.nds [.val (.pointer B),.S C n o,.val (.pointer B)] (.both (.cI 196 #[.pointer B,.slice C n o,e] fun e=>.nds [.val (.pointer (some (((c.add 0).add 0).add 2))),.O ((c.add 0).add 0),.O (c.add 0)] (.someA B fun l=>.nq l c (.nd (.pointer B) (.both (.sem false (Sem.bind (Instr.mapUpdate 198 (.map j) (.int .i64 e) (.bool true)) fun p=>pure (.tuple #[])) fun m=>.nds [.val (.pointer (some (((c.add 0).add 0).add 2))),.O ((c.add 0).add 0),.O (c.add 0)] (.someA B fun g=>.nq g c (.nds [.val (.pointer B),.val (.map j),.val (.pointer (some (((c.add 0).add 0).add 2))),.O ((c.add 0).add 0),.O (c.add 0)] (.someA B fun i=>.nq i c (.nd (.pointer B) (.ag [.map j])))))) (.nds [.val (.pointer (some (((c.add 0).add 0).add 2))),.O ((c.add 0).add 0),.O (c.add 0)] (.someA B fun g=>.nq g c (.nd (.pointer B) (.sem false (Sem.bind (Instr.mapUpdate 198 (.map j) (.int .i64 e) (.bool true)) fun p=>pure (.tuple #[])) fun m=>.nds [.val (.pointer (some (((c.add 0).add 0).add 2))),.O ((c.add 0).add 0),.O (c.add 0)] (.someA B fun i=>.nq i c (.nd (.pointer B) (.ag [.map j]))))))))))) (.li (((c.add 0).add 0).add 2) fun s=>.ne s e (.nds [.val (.pointer (some (((c.add 0).add 0).add 2))),.O ((c.add 0).add 0),.O (c.add 0)] (.someA B fun l=>.nq l c (.nds [.val (.pointer B),.S C n o,.val (.pointer B)] (.cI 196 #[.pointer B,.slice C n o,e] fun e=>.nds [.val (.pointer (some (((c.add 0).add 0).add 2))),.O ((c.add 0).add 0),.O (c.add 0)] (.someA B fun g=>.nq g c (.nd (.pointer B) (.sem false (Sem.bind (Instr.mapUpdate 198 (.map j) (.int .i64 e) (.bool true)) fun p=>pure (.tuple #[])) fun m=>.nds [.val (.pointer (some (((c.add 0).add 0).add 2))),.O ((c.add 0).add 0),.O (c.add 0)] (.someA B fun i=>.nq i c (.nd (.pointer B) (.ag [.map j])))))))))))))))) (.both (.cI 196 #[.pointer B,.slice C n o,e] fun e=>.nds [.val (.pointer (some (((c.add 0).add 0).add 2))),.O ((c.add 0).add 0),.O (c.add 0)] (.someA B fun j=>.nq j c (.nd (.pointer B) (.both (.sem false (Instr.makeMap 198 none) fun f=>.unM f fun k=>.nds [.val (.pointer (some (((c.add 0).add 0).add 2))),.O ((c.add 0).add 0),.O (c.add 0)] (.someA B fun l=>.nq l c (.nd (.pointer B) (.both (.sem false (Sem.bind (Instr.mapUpdate 198 (.map k) (.int .i64 e) (.bool true)) fun p=>pure (.tuple #[])) fun m=>.nds [.val (.pointer (some (((c.add 0).add 0).add 2))),.O ((c.add 0).add 0),.O (c.add 0)] (.someA B fun g=>.nq g c (.nds [.val (.pointer B),.val (.map k),.val (.pointer (some (((c.add 0).add 0).add 2))),.O ((c.add 0).add 0),.O (c.add 0)] (.someA B fun i=>.nq i c (.nd (.pointer B) (.ag [.map k])))))) (.nds [.val (.pointer (some (((c.add 0).add 0).add 2))),.O ((c.add 0).add 0),.O (c.add 0)] (.someA B fun g=>.nq g c (.nd (.pointer B) (.sem false (Sem.bind (Instr.mapUpdate 198 (.map k) (.int .i64 e) (.bool true)) fun p=>pure (.tuple #[])) fun m=>.nds [.val (.pointer (some (((c.add 0).add 0).add 2))),.O ((c.add 0).add 0),.O (c.add 0)] (.someA B fun i=>.nq i c (.nd (.pointer B) (.ag [.map k]))))))))))) (.nds [.val (.pointer (some (((c.add 0).add 0).add 2))),.O ((c.add 0).add 0),.O (c.add 0)] (.someA B fun k=>.nq k c (.nd (.pointer B) (.sem false (Instr.makeMap 198 none) fun f=>.unM f fun l=>.nds [.val (.pointer (some (((c.add 0).add 0).add 2))),.O ((c.add 0).add 0),.O (c.add 0)] (.someA B fun g=>.nq g c (.nd (.pointer B) (.sem false (Sem.bind (Instr.mapUpdate 198 (.map l) (.int .i64 e) (.bool true)) fun p=>pure (.tuple #[])) fun m=>.nds [.val (.pointer (some (((c.add 0).add 0).add 2))),.O ((c.add 0).add 0),.O (c.add 0)] (.someA B fun i=>.nq i c (.nd (.pointer B) (.ag [.map l])))))))))))))) (.li (((c.add 0).add 0).add 2) fun r=>.ne r e (.nds [.val (.pointer (some (((c.add 0).add 0).add 2))),.O ((c.add 0).add 0),.O (c.add 0)] (.someA B fun j=>.nq j c (.nds [.val (.pointer B),.S C n o,.val (.pointer B)] (.both (.sem false (Instr.makeMap 198 none) fun f=>.unM f fun k=>.li (((c.add 0).add 0).add 2) fun s=>.ne s e (.nds [.val (.pointer (some (((c.add 0).add 0).add 2))),.O ((c.add 0).add 0),.O (c.add 0)] (.someA B fun l=>.nq l c (.nds [.val (.pointer B),.S C n o,.val (.pointer B)] (.cI 196 #[.pointer B,.slice C n o,e] fun e=>.nds [.val (.pointer (some (((c.add 0).add 0).add 2))),.O ((c.add 0).add 0),.O (c.add 0)] (.someA B fun g=>.nq g c (.nd (.pointer B) (.sem false (Sem.bind (Instr.mapUpdate 198 (.map k) (.int .i64 e) (.bool true)) fun p=>pure (.tuple #[])) fun m=>.nds [.val (.pointer (some (((c.add 0).add 0).add 2))),.O ((c.add 0).add 0),.O (c.add 0)] (.someA B fun i=>.nq i c (.nd (.pointer B) (.ag [.map k]))))))))))) (.cI 196 #[.pointer B,.slice C n o,e] fun e=>.nds [.val (.pointer (some (((c.add 0).add 0).add 2))),.O ((c.add 0).add 0),.O (c.add 0)] (.someA B fun k=>.nq k c (.nd (.pointer B) (.sem false (Instr.makeMap 198 none) fun f=>.unM f fun l=>.nds [.val (.pointer (some (((c.add 0).add 0).add 2))),.O ((c.add 0).add 0),.O (c.add 0)] (.someA B fun g=>.nq g c (.nd (.pointer B) (.sem false (Sem.bind (Instr.mapUpdate 198 (.map l) (.int .i64 e) (.bool true)) fun p=>pure (.tuple #[])) fun m=>.nds [.val (.pointer (some (((c.add 0).add 0).add 2))),.O ((c.add 0).add 0),.O (c.add 0)] (.someA B fun i=>.nq i c (.nd (.pointer B) (.ag [.map l]))))))))))))))))) (fun d=>.popM d fun c d=>.unNil d (.cl 140 #[.pointer B,a,b] fun f=>.each f [.map c] (fun F d=>.unCons F fun f x=>.unAgg f fun u=>.pi u fun e y=>.pi y fun r z=>.pi z fun s D=>.popS D fun c H G E=>.unNil E (.unNil x (.popM d fun c d=>.unNil d (.sem false (Instr.makeMap 198 none) fun f=>.unM f fun j=>.loop [e] (fun d=>.pi d fun e d=>.unNil d (bif decide (e<=r) then .cI 196 #[.pointer B,.slice C n o,e] fun v=>.loop [.int .i64 0] (fun d=>.pi d fun e d=>.unNil d (bif decide (e<wrap .i64 (wrap .i64 (wrap .i64 (1*2^min (Int.toNat (↑n:Int)) 64)-1)+1)) then .sem false (Instr.lookup 198 (.map c) (.int .i64 e) false) fun f=>.unB f fun q=>bif q then .sem false (Sem.bind (Instr.mapUpdate 198 (.map j) (.int .i64 (wrap .i64 (↑(BitVec.toNat (BitVec.ofInt 64 e ||| BitVec.ofInt 64 v)):Int))) (.bool true)) fun p=>pure (.tuple #[])) fun m=>.ag [.int .i64 (wrap .i64 (e+1))] else .ag [.int .i64 (wrap .i64 (e+1))] else .bk [e])) (fun d=>.pi d fun w d=>.unNil d (.ag [.int .i64 (wrap .i64 (e+1))])) (fun d=>.pi d fun w d=>.unNil d (.rn [e])) fun m t=>.fail else .bk [e])) (fun d=>.pi d fun e d=>.unNil d (.ag [.map j])) (fun d=>.pi d fun e d=>.unNil d (.rn [.map c])) fun m t=>.fail)))) (fun d=>.popM d fun c d=>.unNil d (.sem false (Instr.lookup 198 (.map c) (.int .i64 (wrap .i64 (wrap .i64 (1*2^min (Int.toNat (↑n:Int)) 64)-1))) false) fun f=>.unB f fun q=>.rt (.bool !q))) (fun d=>.popM d fun c d=>.unNil d (.sem false (Instr.lookup 198 (.map c) (.int .i64 (wrap .i64 (wrap .i64 (1*2^min (Int.toNat (↑n:Int)) 64)-1))) false) fun f=>.unB f fun q=>.rt (.bool !q))) (fun d=>.popM d fun c d=>.unNil d (.rt (.bool false))) fun m t=>.fail)) (fun d=>.popM d fun c d=>.unNil d (.rt (.bool false))) fun m t=>.fail)):=fk [4,7,9,10,11] [⟨4,[(53,.int .i64)],[4,7,9,10,11],[],[],[]⟩,⟨2,[(13,.int .i64)],[4,7,9,10,11],[],[],[]⟩,{ id:=0,slots:=[(45056,.map)],ro:=[4,7,9],outs:=[],ps:=[.agg [.int .i64,.int .i64,.int .i64,.slice]] }] [{ id:=3,slots:=[(45056,.map)],ro:=[4,7,9],outs:=[],pps:=[10] }] Tryz.f170
theorem w107:FX X 196 #[.pointer B,.slice C n o,a] h A (.loop [.int .i64 0,.int .i64 0] (fun b=>.pi b fun d b=>.pi b fun c b=>.unNil b (bif decide (c<(↑n:Int)) then .need (0<=c/\c<(↑n:Int)) (.someA C fun e=>.li ((e.add (c.toNat*3)).add 0) fun i=>.li ((e.add (c.toNat*3)).add 1) fun p=>.loadS ((e.add (c.toNat*3)).add 2) fun r q m=>.cl 74 #[.pointer B,i] fun l=>.unAgg l fun g=>.pi g fun j b=>.pi b fun k b=>.unNil b (.cB 133 #[a,j,k] fun f=>bif f then .need (0<=c) (.ag [.int .i64 (wrap .i64 (↑(BitVec.toNat (BitVec.ofInt 64 d ||| BitVec.ofInt 64 (wrap .i64 (1*2^min (c.toNat) 64)))):Int)),.int .i64 (wrap .i64 (c+1))]) else .ag [d,.int .i64 (wrap .i64 (c+1))])) else .bk [d,c])) (fun b=>.pi b fun d b=>.pi b fun c b=>.unNil b (.rt (.int .i64 d))) (fun b=>.pi b fun d b=>.pi b fun d b=>.unNil b (.rt (.int .i64 0))) fun s t=>.fail):=fk [9,10] [⟨0,[(7,.int .i64),(13,.int .i64)],[],[],[],[]⟩] [] Tryz.f196
theorem w126:FX X 296 #[.agg #[a,b,c,d,.slice B n o,.slice C p q,.slice D r s]] h A (.cB 133 #[a,.int .i64 0,.int .i64 6] fun e=>bif !e then .cI 135 #[true,.int .i64 1] fun f=>.rt (.int .i64 f) else .cB 133 #[b,.int .i64 1,.int .i64 3] fun e=>bif !e then .cI 135 #[true,.int .i64 1] fun f=>.rt (.int .i64 f) else .cB 136 #[c] fun e=>bif !e then .cI 135 #[true,.int .i64 1] fun f=>.rt (.int .i64 f) else .cB 133 #[d,.int .i64 1,.int .i64 2000] fun e=>.cI 135 #[.bool !e,.int .i64 1] fun f=>.rt (.int .i64 f)):=fk [1] [] [] Tryz.f296
theorem w127:FX X 297 #[.agg #[a,b,c,d,.slice B n o,.slice C p q,.slice D r s]] h A (.cI 300 #[.slice B n o,.int .i64 4,.func (Fn.func 301) #[] #[]] fun e=>.rt (.int .i64 e)):=fk [1] [] [] Tryz.f297
theorem w128:FX X 298 #[.agg #[a,b,c,d,.slice B n o,.slice C p q,.slice D r s]] h A (.new 158 #[a,b,c,d,.slice B n o,.slice C p q,.slice D r s] fun f=>.loadS ((Addr.add ⟨f,0,none⟩ 0).add 5) fun i e g=>.cI 303 #[.slice i e g,.int .i64 8,.func (Fn.func 304) #[] #[.pointer (some ⟨f,0,none⟩)]] fun e=>.rt (.int .i64 e)):=fk [] [] [] Tryz.f298
theorem w129:FX X 299 #[.agg #[a,b,c,d,.slice B n o,.slice C p q,.slice D r s]] h A (.new 158 #[a,b,c,d,.slice B n o,.slice C p q,.slice D r s] fun f=>.loadS ((Addr.add ⟨f,0,none⟩ 0).add 6) fun i e g=>.cI 305 #[.slice i e g,.int .i64 4,.func (Fn.func 306) #[] #[.pointer (some ⟨f,0,none⟩)]] fun e=>.rt (.int .i64 e)):=fk [] [] [] Tryz.f299
theorem w130{f:Value}:FX X 300 #[.slice B n o,a,f] h A (bif decide ((↑n:Int)>a) then .rt (.int .i64 2) else .loop [.int .i64 0,.int .i64 0] (fun b=>.pi b fun d b=>.pi b fun c b=>.unNil b (bif decide (c<(↑n:Int)) then .need (0<=c/\c<(↑n:Int)) (.someA B fun e=>.li ((e.add (c.toNat*2)).add 0) fun i=>.li ((e.add (c.toNat*2)).add 1) fun j=>.callv false f #[c,.agg #[i,j]] fun k=>.ui k fun g=>bif g != 0 then .rn [g,c] else .ag [d,.int .i64 (wrap .i64 (c+1))]) else .bk [d,c])) (fun b=>.pi b fun d b=>.pi b fun d b=>.unNil b (.rt (.int .i64 0))) (fun b=>.pi b fun d b=>.pi b fun c b=>.unNil b (.rt (.int .i64 d))) fun l m=>.fail):=fk [8] [⟨0,[(6,.int .i64),(16,.int .i64)],[],[],[],[]⟩] [] Tryz.f300
theorem w131:FX X 301 #[a,.agg #[b,c]] h A (.cB 302 #[.agg #[b,c]] fun d=>.cI 135 #[.bool !d,.int .i64 1] fun e=>.rt (.int .i64 e)):=fk [3] [] [] Tryz.f301
theorem w132:FX X 302 #[.agg #[a,b]] h A (.cB 136 #[a] fun c=>bif c then .cB 136 #[b] fun c=>bif c then .rt (.bool (decide (a<=b))) else .rt (.bool false) else .rt (.bool false)):=fk [1] [] [] Tryz.f302
theorem w133{f:Value}:FX X 303 #[.slice B n o,a,f] h A (bif decide ((↑n:Int)>a) then .rt (.int .i64 2) else .loop [.int .i64 0,.int .i64 0] (fun b=>.pi b fun d b=>.pi b fun c b=>.unNil b (bif decide (c<(↑n:Int)) then .need (0<=c/\c<(↑n:Int)) (.someA B fun e=>.li ((e.add (c.toNat*4)).add 0) fun j=>.li ((e.add (c.toNat*4)).add 1) fun k=>.li ((e.add (c.toNat*4)).add 2) fun l=>.loadS ((e.add (c.toNat*4)).add 3) fun p m i=>.callv false f #[c,.agg #[j,k,l,.slice p m i]] fun q=>.ui q fun g=>bif g != 0 then .rn [g,c] else .ag [d,.int .i64 (wrap .i64 (c+1))]) else .bk [d,c])) (fun b=>.pi b fun d b=>.pi b fun d b=>.unNil b (.rt (.int .i64 0))) (fun b=>.pi b fun d b=>.pi b fun c b=>.unNil b (.rt (.int .i64 d))) fun r s=>.fail):=fk [8] [⟨0,[(6,.int .i64),(16,.int .i64)],[],[],[],[]⟩] [] Tryz.f303
theorem w134{e:Addr}:FX X 304 #[a,.agg #[b,c,d,.slice B n o],.pointer (some e)] h A (.li (e.add 0) fun f=>.li (e.add 1) fun m=>.li (e.add 2) fun p=>.li (e.add 3) fun q=>.loadS (e.add 4) fun u r g=>.loadS (e.add 5) fun v s k=>.loadS (e.add 6) fun w t l=>.li ((e.add 0).add 0) fun i=>.cB 302 #[.agg #[b,c]] fun j=>.li ((e.add 0).add 0) fun a0=>.ne a0 i (.nds [.O ((e.add 0).add 0),.O (e.add 0),.S B n o,.pp 4 3,d,.pp 4 2] (.li (e.add 0) fun b0=>.li (e.add 1) fun G=>.li (e.add 2) fun H=>.li (e.add 3) fun I=>.loadS (e.add 4) fun d0 J y=>.loadS (e.add 5) fun e0 K z=>.loadS (e.add 6) fun f0 L C=>.ne (.agg #[b0,G,H,I,.slice d0 J y,.slice e0 K z,.slice f0 L C]) (.agg #[f,m,p,q,.slice u r g,.slice v s k,.slice w t l]) (.np 4 0 (.cI 135 #[.bool !j,.int .i64 1] fun M=>.li ((e.add 0).add 0) fun N=>.ne N i (.nds [.O ((e.add 0).add 0),.O (e.add 0),.S B n o,.pp 4 3,d,.pp 4 2] (.li (e.add 0) fun O=>.li (e.add 1) fun Q=>.li (e.add 2) fun R=>.li (e.add 3) fun S=>.loadS (e.add 4) fun g0 U D=>.loadS (e.add 5) fun i0 V E=>.loadS (e.add 6) fun c0 W F=>.ne (.agg #[O,Q,R,S,.slice g0 U D,.slice i0 V E,.slice c0 W F]) (.agg #[f,m,p,q,.slice u r g,.slice v s k,.slice w t l]) (.np 4 0 (.cB 138 #[.agg #[f,m,p,q,.slice u r g,.slice v s k,.slice w t l],d] fun j=>.li ((e.add 0).add 0) fun f=>.ne f i (.nds [.O ((e.add 0).add 0),.O (e.add 0),.S B n o,.pp 4 3,.pp 4 2,.pp 4 0] (.cI 135 #[.bool !j,.int .i64 6] fun f=>.li ((e.add 0).add 0) fun Y=>.ne Y i (.nds [.O ((e.add 0).add 0),.O (e.add 0),.S B n o,.pp 4 3,.pp 4 2,.pp 4 0] (.cI 83 #[.slice B n o,i] fun Z=>.nds [.O ((e.add 0).add 0),.O (e.add 0),.pp 4 3,.pp 4 2,.pp 4 0] (.sem false (Instr.buildSlice 272 3 #[(0,.int .i64 M),(1,.int .i64 f),(2,.int .i64 Z)]) fun j0=>.unS j0 fun x f g=>.nds [.O ((e.add 0).add 0),.O (e.add 0),.pp 4 3,.pp 4 2,.pp 4 0] (.cI 145 #[.slice x f g] fun f=>.nds [.O ((e.add 0).add 0),.O (e.add 0),.pp 4 3,.pp 4 2,.pp 4 0] (.rt (.int .i64 f))))))))))))))))):=fk [4] [] [] Tryz.f304
theorem w135{f:Value}:FX X 305 #[.slice B n o,a,f] h A (bif decide ((↑n:Int)>a) then .rt (.int .i64 2) else .loop [.int .i64 0,.int .i64 0] (fun b=>.pi b fun d b=>.pi b fun c b=>.unNil b (bif decide (c<(↑n:Int)) then .need (0<=c/\c<(↑n:Int)) (.someA B fun e=>.li ((e.add (c.toNat*3)).add 0) fun j=>.li ((e.add (c.toNat*3)).add 1) fun k=>.loadS ((e.add (c.toNat*3)).add 2) fun m l i=>.callv false f #[c,.agg #[j,k,.slice m l i]] fun p=>.ui p fun g=>bif g != 0 then .rn [g,c] else .ag [d,.int .i64 (wrap .i64 (c+1))]) else .bk [d,c])) (fun b=>.pi b fun d b=>.pi b fun d b=>.unNil b (.rt (.int .i64 0))) (fun b=>.pi b fun d b=>.pi b fun c b=>.unNil b (.rt (.int .i64 d))) fun q r=>.fail):=fk [8] [⟨0,[(6,.int .i64),(16,.int .i64)],[],[],[],[]⟩] [] Tryz.f305
theorem w136{d:Addr}:FX X 306 #[a,.agg #[b,c,.slice B n o],.pointer (some d)] h A (.li ((d.add 0).add 2) fun e=>.li (d.add 0) fun r=>.li (d.add 1) fun s=>.li (d.add 2) fun t=>.li (d.add 3) fun u=>.loadS (d.add 4) fun g v f=>.loadS (d.add 5) fun y w p=>.loadS (d.add 6) fun z x q=>.li ((d.add 0).add 0) fun k=>.cB 136 #[b] fun D=>.li ((d.add 0).add 0) fun b4=>.ne b4 k (.nds [.O ((d.add 0).add 0),.O (d.add 0),.S B n o,.pp 4 2,c,.pp 4 1] (.li (d.add 0) fun y2=>.li (d.add 1) fun z2=>.li (d.add 2) fun a3=>.li (d.add 3) fun b3=>.loadS (d.add 4) fun f4 c3 r2=>.loadS (d.add 5) fun g4 d3 s2=>.loadS (d.add 6) fun i4 e3 t2=>.ne (.agg #[y2,z2,a3,b3,.slice f4 c3 r2,.slice g4 d3 s2,.slice i4 e3 t2]) (.agg #[r,s,t,u,.slice g v f,.slice y w p,.slice z x q]) (.nb (decide (b<e)) (.li ((d.add 0).add 2) fun f3=>.ne f3 e (.nds [.O ((d.add 0).add 2),.O (d.add 0),b,.pp 4 0,.pp 4 0] (.cI 135 #[.bool !D,.int .i64 1] fun i1=>.li ((d.add 0).add 0) fun g3=>.ne g3 k (.nds [.O ((d.add 0).add 0),.O (d.add 0),.S B n o,.pp 4 2,c,.pp 4 1] (.li (d.add 0) fun i3=>.li (d.add 1) fun j3=>.li (d.add 2) fun k3=>.li (d.add 3) fun l3=>.loadS (d.add 4) fun j4 m3 u2=>.loadS (d.add 5) fun k4 o3 v2=>.loadS (d.add 6) fun l4 p3 x2=>.ne (.agg #[i3,j3,k3,l3,.slice j4 m3 u2,.slice k4 o3 v2,.slice l4 p3 x2]) (.agg #[r,s,t,u,.slice g v f,.slice y w p,.slice z x q]) (.nb (decide (b<e)) (.li ((d.add 0).add 2) fun q3=>.ne q3 e (.nds [.O ((d.add 0).add 2),.O (d.add 0),b,.pp 4 0,.pp 4 0] (bif decide (b<e) then .li ((d.add 0).add 0) fun l=>.ne l k (.nds [.O ((d.add 0).add 0),.O (d.add 0),.S B n o,.pp 4 2,c,.pp 4 1] (.li (d.add 0) fun j=>.li (d.add 1) fun J=>.li (d.add 2) fun K=>.li (d.add 3) fun L=>.loadS (d.add 4) fun m M C=>.loadS (d.add 5) fun v0 N E=>.loadS (d.add 6) fun x0 O F=>.ne (.agg #[j,J,K,L,.slice m M C,.slice v0 N E,.slice x0 O F]) (.agg #[r,s,t,u,.slice g v f,.slice y w p,.slice z x q]) (.nb (decide (b<e)) (.li ((d.add 0).add 2) fun Q=>.ne Q e (.nds [.O ((d.add 0).add 2),.O (d.add 0),b,.pp 4 0,.pp 4 0,.U,.U,.U,.U,.U] (.li ((d.add 0).add 0) fun R=>.ne R k (.nds [.O ((d.add 0).add 0),.O (d.add 0),.S B n o,.pp 4 2,c,.pp 4 1] (.li (d.add 0) fun S=>.li (d.add 1) fun U=>.li (d.add 2) fun V=>.li (d.add 3) fun W=>.loadS (d.add 4) fun y0 Y G=>.loadS (d.add 5) fun z0 Z H=>.loadS (d.add 6) fun y1 a0 I=>.ne (.agg #[S,U,V,W,.slice y0 Y G,.slice z0 Z H,.slice y1 a0 I]) (.agg #[r,s,t,u,.slice g v f,.slice y w p,.slice z x q]) (.nb (decide (b<e)) (.li ((d.add 0).add 2) fun b0=>.ne b0 e (.nds [.O ((d.add 0).add 2),.O (d.add 0),b,.pp 4 0,.pp 4 0,.U,.U,.U,.U,.U] (.li ((d.add 0).add 0) fun c0=>.ne c0 k (.nds [.O ((d.add 0).add 0),.O (d.add 0),.S B n o,.pp 4 2,c,.pp 4 1] (.li (d.add 0) fun d0=>.li (d.add 1) fun e0=>.li (d.add 2) fun f0=>.li (d.add 3) fun g0=>.loadS (d.add 4) fun z1 i0 b1=>.loadS (d.add 5) fun a2 j0 c1=>.loadS (d.add 6) fun b2 k0 d1=>.ne (.agg #[d0,e0,f0,g0,.slice z1 i0 b1,.slice a2 j0 c1,.slice b2 k0 d1]) (.agg #[r,s,t,u,.slice g v f,.slice y w p,.slice z x q]) (.nb (decide (b<e)) (.li ((d.add 0).add 2) fun l0=>.ne l0 e (.nds [.O ((d.add 0).add 2),.O (d.add 0),b,.pp 4 0,.pp 4 0,.U,.U,.U,.U,.U,.U] (.li ((d.add 0).add 0) fun m0=>.ne m0 k (.nds [.O ((d.add 0).add 0),.O (d.add 0),.S B n o,.pp 4 2,c,.pp 4 1] (.li (d.add 0) fun o0=>.li (d.add 1) fun p0=>.li (d.add 2) fun q0=>.li (d.add 3) fun r0=>.loadS (d.add 4) fun c2 s0 e1=>.loadS (d.add 5) fun d2 t0 f1=>.loadS (d.add 6) fun e2 u0 g1=>.ne (.agg #[o0,p0,q0,r0,.slice c2 s0 e1,.slice d2 t0 f1,.slice e2 u0 g1]) (.agg #[r,s,t,u,.slice g v f,.slice y w p,.slice z x q]) (.nb (decide (b<e)) (.li ((d.add 0).add 2) fun j1=>.ne j1 e (.nds [.O ((d.add 0).add 2),.O (d.add 0),b,.pp 4 0,.pp 4 0] (.cI 135 #[true,.int .i64 7] fun k1=>.nds [.U,.U,.U,.U,.U,.U,.U] (.li ((d.add 0).add 0) fun l1=>.ne l1 k (.nds [.O ((d.add 0).add 0),.O (d.add 0),.S B n o,.pp 4 2,c,.pp 4 1] (.li (d.add 0) fun m1=>.li (d.add 1) fun o1=>.li (d.add 2) fun p1=>.li (d.add 3) fun q1=>.loadS (d.add 4) fun c4 r1 o2=>.loadS (d.add 5) fun d4 s1 p2=>.loadS (d.add 6) fun e4 t1 q2=>.ne (.agg #[m1,o1,p1,q1,.slice c4 r1 o2,.slice d4 s1 p2,.slice e4 t1 q2]) (.agg #[r,s,t,u,.slice g v f,.slice y w p,.slice z x q]) (.nb (decide (b<e)) (.li ((d.add 0).add 2) fun u1=>.ne u1 e (.nds [.O ((d.add 0).add 2),.O (d.add 0),b,.pp 4 0,.pp 4 0] (.cB 138 #[.agg #[r,s,t,u,.slice g v f,.slice y w p,.slice z x q],c] fun D=>.nds [.U,.U,.U,.U,.U,.U,.U] (.li ((d.add 0).add 0) fun v1=>.ne v1 k (.nds [.O ((d.add 0).add 0),.O (d.add 0),.S B n o,.pp 4 2,.pp 4 1,.B (decide (b<e))] (.li ((d.add 0).add 2) fun x1=>.ne x1 e (.nds [.O ((d.add 0).add 2),.O (d.add 0),b,.pp 4 0,.pp 4 0] (.cI 135 #[.bool !D,.int .i64 6] fun r3=>.nds [.U,.U,.U,.U,.U,.U,.U] (.li ((d.add 0).add 0) fun s3=>.ne s3 k (.nds [.O ((d.add 0).add 0),.O (d.add 0),.S B n o,.pp 4 2,.pp 4 1,.B (decide (b<e))] (.li ((d.add 0).add 2) fun t3=>.ne t3 e (.nds [.O ((d.add 0).add 2),.O (d.add 0),b,.pp 4 0,.pp 4 0] (.cI 83 #[.slice B n o,k] fun u3=>.nds [.U,.U,.U,.U,.U,.U,.U,.O ((d.add 0).add 0),.O (d.add 0),.pp 4 2,.pp 4 1,.B (decide (b<e))] (.li ((d.add 0).add 2) fun v3=>.ne v3 e (.nds [.O ((d.add 0).add 2),.O (d.add 0),b,.pp 4 0,.pp 4 0] (.sem false (Instr.buildSlice 272 4 #[(0,.int .i64 i1),(1,.int .i64 k1),(2,.int .i64 r3),(3,.int .i64 u3)]) fun a1=>.unS a1 fun i x3 f=>.nds [.U,.U,.U,.U,.U,.U,.U,.O ((d.add 0).add 0),.O (d.add 0),.pp 4 2,.pp 4 1,.B (decide (b<e))] (.li ((d.add 0).add 2) fun y3=>.ne y3 e (.nds [.O ((d.add 0).add 2),.O (d.add 0),b,.pp 4 0,.pp 4 0] (.cI 145 #[.slice i x3 f] fun z3=>.nds [.U,.U,.U,.U,.U,.U,.U,.O ((d.add 0).add 0),.O (d.add 0),.pp 4 2,.pp 4 1,.B (decide (b<e))] (.li ((d.add 0).add 2) fun a4=>.ne a4 e (.nds [.O ((d.add 0).add 2),.O (d.add 0),b,.pp 4 0,.pp 4 0] (.rt (.int .i64 z3))))))))))))))))))))))))))))))))))))))))))))))))))) else bif decide (a>0) then .loadS ((d.add 0).add 6) fun m l C=>.need ((0<=if wrap .i64 (a-1)>0 then wrap .i64 (a-1) else 0)/\(if wrap .i64 (a-1)>0 then wrap .i64 (a-1) else 0)<(↑l:Int)) (.someA m fun i=>.li ((i.add ((if wrap .i64 (a-1)>0 then wrap .i64 (a-1) else 0).toNat*3)).add 0) fun j=>.cI 135 #[.bool (decide (b<j)),.int .i64 7] fun J=>.nds [.B (decide (b<j)),.B (decide (b<j))] (.li ((i.add ((if wrap .i64 (a-1)>0 then wrap .i64 (a-1) else 0).toNat*3)).add 0) fun K=>.ne K j (.nd (.pointer (some ((i.add ((if wrap .i64 (a-1)>0 then wrap .i64 (a-1) else 0).toNat*3)).add 0))) (.need ((0<=if wrap .i64 (a-1)>0 then wrap .i64 (a-1) else 0)/\(if wrap .i64 (a-1)>0 then wrap .i64 (a-1) else 0)<(↑l:Int)) (.someA m fun f2=>.ne (.pointer (some (f2.add ((if wrap .i64 (a-1)>0 then wrap .i64 (a-1) else 0).toNat*3)))) (.pointer (some (i.add ((if wrap .i64 (a-1)>0 then wrap .i64 (a-1) else 0).toNat*3)))) (.nds [.val (.int .i64 (if wrap .i64 (a-1)>0 then wrap .i64 (a-1) else 0)),.val (.int .i64 (wrap .i64 (a-1))),a] (.loadS ((d.add 0).add 6) fun v0 L E=>.ne (.slice v0 L E) (.slice m l C) (.nds [.O ((d.add 0).add 6),.O (d.add 0),b,.pp 4 0,.B (decide (a>0)),a] (.nf (decide (b<e)) false (.li ((d.add 0).add 0) fun M=>.ne M k (.nds [.O ((d.add 0).add 0),.O (d.add 0),.S B n o,.pp 4 2,c,.pp 4 1] (.li (d.add 0) fun N=>.li (d.add 1) fun O=>.li (d.add 2) fun Q=>.li (d.add 3) fun R=>.loadS (d.add 4) fun x0 S F=>.loadS (d.add 5) fun y0 U G=>.loadS (d.add 6) fun z0 V H=>.ne (.agg #[N,O,Q,R,.slice x0 S F,.slice y0 U G,.slice z0 V H]) (.agg #[r,s,t,u,.slice g v f,.slice y w p,.slice z x q]) (.nb (decide (b<e)) (.li ((d.add 0).add 2) fun W=>.ne W e (.nds [.O ((d.add 0).add 2),.O (d.add 0),b,.pp 4 0,.pp 4 0] (.cB 138 #[.agg #[r,s,t,u,.slice g v f,.slice y w p,.slice z x q],c] fun D=>.nds [.B (decide (b<j)),.B (decide (b<j))] (.li ((i.add ((if wrap .i64 (a-1)>0 then wrap .i64 (a-1) else 0).toNat*3)).add 0) fun Y=>.ne Y j (.nd (.pointer (some ((i.add ((if wrap .i64 (a-1)>0 then wrap .i64 (a-1) else 0).toNat*3)).add 0))) (.need ((0<=if wrap .i64 (a-1)>0 then wrap .i64 (a-1) else 0)/\(if wrap .i64 (a-1)>0 then wrap .i64 (a-1) else 0)<(↑l:Int)) (.someA m fun g2=>.ne (.pointer (some (g2.add ((if wrap .i64 (a-1)>0 then wrap .i64 (a-1) else 0).toNat*3)))) (.pointer (some (i.add ((if wrap .i64 (a-1)>0 then wrap .i64 (a-1) else 0).toNat*3)))) (.nds [.val (.int .i64 (if wrap .i64 (a-1)>0 then wrap .i64 (a-1) else 0)),.val (.int .i64 (wrap .i64 (a-1))),a] (.loadS ((d.add 0).add 6) fun g Z f=>.ne (.slice g Z f) (.slice m l C) (.nds [.O ((d.add 0).add 6),.O (d.add 0),b,.pp 4 0,.B (decide (a>0)),a] (.nf (decide (b<e)) false (.li ((d.add 0).add 0) fun a0=>.ne a0 k (.nds [.O ((d.add 0).add 0),.O (d.add 0),.S B n o,.pp 4 2,.pp 4 1,.B (decide (b<e))] (.li ((d.add 0).add 2) fun b0=>.ne b0 e (.nds [.O ((d.add 0).add 2),.O (d.add 0),b,.pp 4 0,.pp 4 0] (.cI 135 #[.bool !D,.int .i64 6] fun c0=>.nds [.B (decide (b<j)),.B (decide (b<j))] (.li ((i.add ((if wrap .i64 (a-1)>0 then wrap .i64 (a-1) else 0).toNat*3)).add 0) fun d0=>.ne d0 j (.nd (.pointer (some ((i.add ((if wrap .i64 (a-1)>0 then wrap .i64 (a-1) else 0).toNat*3)).add 0))) (.need ((0<=if wrap .i64 (a-1)>0 then wrap .i64 (a-1) else 0)/\(if wrap .i64 (a-1)>0 then wrap .i64 (a-1) else 0)<(↑l:Int)) (.someA m fun i2=>.ne (.pointer (some (i2.add ((if wrap .i64 (a-1)>0 then wrap .i64 (a-1) else 0).toNat*3)))) (.pointer (some (i.add ((if wrap .i64 (a-1)>0 then wrap .i64 (a-1) else 0).toNat*3)))) (.nds [.val (.int .i64 (if wrap .i64 (a-1)>0 then wrap .i64 (a-1) else 0)),.val (.int .i64 (wrap .i64 (a-1))),a] (.loadS ((d.add 0).add 6) fun g e0 f=>.ne (.slice g e0 f) (.slice m l C) (.nds [.O ((d.add 0).add 6),.O (d.add 0),b,.pp 4 0,.B (decide (a>0)),a] (.nf (decide (b<e)) false (.li ((d.add 0).add 0) fun f0=>.ne f0 k (.nds [.O ((d.add 0).add 0),.O (d.add 0),.S B n o,.pp 4 2,.pp 4 1,.B (decide (b<e))] (.li ((d.add 0).add 2) fun g0=>.ne g0 e (.nds [.O ((d.add 0).add 2),.O (d.add 0),b,.pp 4 0,.pp 4 0] (.cI 83 #[.slice B n o,k] fun i0=>.nds [.B (decide (b<j)),.B (decide (b<j))] (.li ((i.add ((if wrap .i64 (a-1)>0 then wrap .i64 (a-1) else 0).toNat*3)).add 0) fun j0=>.ne j0 j (.nd (.pointer (some ((i.add ((if wrap .i64 (a-1)>0 then wrap .i64 (a-1) else 0).toNat*3)).add 0))) (.need ((0<=if wrap .i64 (a-1)>0 then wrap .i64 (a-1) else 0)/\(if wrap .i64 (a-1)>0 then wrap .i64 (a-1) else 0)<(↑l:Int)) (.someA m fun j2=>.ne (.pointer (some (j2.add ((if wrap .i64 (a-1)>0 then wrap .i64 (a-1) else 0).toNat*3)))) (.pointer (some (i.add ((if wrap .i64 (a-1)>0 then wrap .i64 (a-1) else 0).toNat*3)))) (.nds [.val (.int .i64 (if wrap .i64 (a-1)>0 then wrap .i64 (a-1) else 0)),.val (.int .i64 (wrap .i64 (a-1))),a] (.loadS ((d.add 0).add 6) fun g k0 f=>.ne (.slice g k0 f) (.slice m l C) (.nds [.O ((d.add 0).add 6),.O (d.add 0),b,.pp 4 0,.B (decide (a>0)),a] (.nf (decide (b<e)) false (.nds [.O ((d.add 0).add 0),.O (d.add 0),.pp 4 2,.pp 4 1,.B (decide (b<e))] (.li ((d.add 0).add 2) fun l0=>.ne l0 e (.nds [.O ((d.add 0).add 2),.O (d.add 0),b,.pp 4 0,.pp 4 0] (.sem false (Instr.buildSlice 272 4 #[(0,.int .i64 i1),(1,.int .i64 J),(2,.int .i64 c0),(3,.int .i64 i0)]) fun a1=>.unS a1 fun k2 m0 f=>.nds [.B (decide (b<j)),.B (decide (b<j))] (.li ((i.add ((if wrap .i64 (a-1)>0 then wrap .i64 (a-1) else 0).toNat*3)).add 0) fun o0=>.ne o0 j (.nd (.pointer (some ((i.add ((if wrap .i64 (a-1)>0 then wrap .i64 (a-1) else 0).toNat*3)).add 0))) (.need ((0<=if wrap .i64 (a-1)>0 then wrap .i64 (a-1) else 0)/\(if wrap .i64 (a-1)>0 then wrap .i64 (a-1) else 0)<(↑l:Int)) (.someA m fun l2=>.ne (.pointer (some (l2.add ((if wrap .i64 (a-1)>0 then wrap .i64 (a-1) else 0).toNat*3)))) (.pointer (some (i.add ((if wrap .i64 (a-1)>0 then wrap .i64 (a-1) else 0).toNat*3)))) (.nds [.val (.int .i64 (if wrap .i64 (a-1)>0 then wrap .i64 (a-1) else 0)),.val (.int .i64 (wrap .i64 (a-1))),a] (.loadS ((d.add 0).add 6) fun g p0 I=>.ne (.slice g p0 I) (.slice m l C) (.nds [.O ((d.add 0).add 6),.O (d.add 0),b,.pp 4 0,.B (decide (a>0)),a] (.nf (decide (b<e)) false (.nds [.O ((d.add 0).add 0),.O (d.add 0),.pp 4 2,.pp 4 1,.B (decide (b<e))] (.li ((d.add 0).add 2) fun q0=>.ne q0 e (.nds [.O ((d.add 0).add 2),.O (d.add 0),b,.pp 4 0,.pp 4 0] (.cI 145 #[.slice k2 m0 f] fun r0=>.nds [.B (decide (b<j)),.B (decide (b<j))] (.li ((i.add ((if wrap .i64 (a-1)>0 then wrap .i64 (a-1) else 0).toNat*3)).add 0) fun s0=>.ne s0 j (.nd (.pointer (some ((i.add ((if wrap .i64 (a-1)>0 then wrap .i64 (a-1) else 0).toNat*3)).add 0))) (.need ((0<=if wrap .i64 (a-1)>0 then wrap .i64 (a-1) else 0)/\(if wrap .i64 (a-1)>0 then wrap .i64 (a-1) else 0)<(↑l:Int)) (.someA m fun m2=>.ne (.pointer (some (m2.add ((if wrap .i64 (a-1)>0 then wrap .i64 (a-1) else 0).toNat*3)))) (.pointer (some (i.add ((if wrap .i64 (a-1)>0 then wrap .i64 (a-1) else 0).toNat*3)))) (.nds [.val (.int .i64 (if wrap .i64 (a-1)>0 then wrap .i64 (a-1) else 0)),.val (.int .i64 (wrap .i64 (a-1))),a] (.loadS ((d.add 0).add 6) fun g t0 f=>.ne (.slice g t0 f) (.slice m l C) (.nds [.O ((d.add 0).add 6),.O (d.add 0),b,.pp 4 0,.B (decide (a>0)),a] (.nf (decide (b<e)) false (.nds [.O ((d.add 0).add 0),.O (d.add 0),.pp 4 2,.pp 4 1,.B (decide (b<e))] (.li ((d.add 0).add 2) fun u0=>.ne u0 e (.nds [.O ((d.add 0).add 2),.O (d.add 0),b,.pp 4 0,.pp 4 0] (.rt (.int .i64 r0))))))))))))))))))))))))))))))))))))))))))))))))))))))))))))))))))))))))))))))) else .nds [.U,.U,.U,.U,.U,.B (decide (a>0)),a] (.nf (decide (b<e)) false (.li ((d.add 0).add 0) fun l=>.ne l k (.nds [.O ((d.add 0).add 0),.O (d.add 0),.S B n o,.pp 4 2,c,.pp 4 1] (.li (d.add 0) fun j=>.li (d.add 1) fun J=>.li (d.add 2) fun K=>.li (d.add 3) fun L=>.loadS (d.add 4) fun m M C=>.loadS (d.add 5) fun v0 N E=>.loadS (d.add 6) fun x0 O F=>.ne (.agg #[j,J,K,L,.slice m M C,.slice v0 N E,.slice x0 O F]) (.agg #[r,s,t,u,.slice g v f,.slice y w p,.slice z x q]) (.nb (decide (b<e)) (.li ((d.add 0).add 2) fun Q=>.ne Q e (.nds [.O ((d.add 0).add 2),.O (d.add 0),b,.pp 4 0,.pp 4 0,.U,.U,.U,.U,.U,.B (decide (a>0)),a] (.nf (decide (b<e)) false (.li ((d.add 0).add 0) fun R=>.ne R k (.nds [.O ((d.add 0).add 0),.O (d.add 0),.S B n o,.pp 4 2,c,.pp 4 1] (.li (d.add 0) fun S=>.li (d.add 1) fun U=>.li (d.add 2) fun V=>.li (d.add 3) fun W=>.loadS (d.add 4) fun y0 Y G=>.loadS (d.add 5) fun z0 Z H=>.loadS (d.add 6) fun y1 a0 I=>.ne (.agg #[S,U,V,W,.slice y0 Y G,.slice z0 Z H,.slice y1 a0 I]) (.agg #[r,s,t,u,.slice g v f,.slice y w p,.slice z x q]) (.nb (decide (b<e)) (.li ((d.add 0).add 2) fun b0=>.ne b0 e (.nds [.O ((d.add 0).add 2),.O (d.add 0),b,.pp 4 0,.pp 4 0,.U,.U,.U,.U,.U,.U,.B (decide (a>0)),a] (.nf (decide (b<e)) false (.li ((d.add 0).add 0) fun c0=>.ne c0 k (.nds [.O ((d.add 0).add 0),.O (d.add 0),.S B n o,.pp 4 2,c,.pp 4 1] (.li (d.add 0) fun d0=>.li (d.add 1) fun e0=>.li (d.add 2) fun f0=>.li (d.add 3) fun g0=>.loadS (d.add 4) fun z1 i0 b1=>.loadS (d.add 5) fun a2 j0 c1=>.loadS (d.add 6) fun b2 k0 d1=>.ne (.agg #[d0,e0,f0,g0,.slice z1 i0 b1,.slice a2 j0 c1,.slice b2 k0 d1]) (.agg #[r,s,t,u,.slice g v f,.slice y w p,.slice z x q]) (.nb (decide (b<e)) (.li ((d.add 0).add 2) fun l0=>.ne l0 e (.nds [.O ((d.add 0).add 2),.O (d.add 0),b,.pp 4 0,.pp 4 0] (.cI 135 #[false,.int .i64 7] fun m0=>.nds [false,.U,.U,.U,.U,.U,.U,.B (decide (a>0)),a] (.nf (decide (b<e)) false (.li ((d.add 0).add 0) fun o0=>.ne o0 k (.nds [.O ((d.add 0).add 0),.O (d.add 0),.S B n o,.pp 4 2,c,.pp 4 1] (.li (d.add 0) fun p0=>.li (d.add 1) fun q0=>.li (d.add 2) fun r0=>.li (d.add 3) fun s0=>.loadS (d.add 4) fun c2 t0 e1=>.loadS (d.add 5) fun d2 u0 f1=>.loadS (d.add 6) fun e2 j1 g1=>.ne (.agg #[p0,q0,r0,s0,.slice c2 t0 e1,.slice d2 u0 f1,.slice e2 j1 g1]) (.agg #[r,s,t,u,.slice g v f,.slice y w p,.slice z x q]) (.nb (decide (b<e)) (.li ((d.add 0).add 2) fun k1=>.ne k1 e (.nds [.O ((d.add 0).add 2),.O (d.add 0),b,.pp 4 0,.pp 4 0] (.cB 138 #[.agg #[r,s,t,u,.slice g v f,.slice y w p,.slice z x q],c] fun D=>.nds [false,.U,.U,.U,.U,.U,.U,.B (decide (a>0)),a] (.nf (decide (b<e)) false (.li ((d.add 0).add 0) fun l1=>.ne l1 k (.nds [.O ((d.add 0).add 0),.O (d.add 0),.S B n o,.pp 4 2,.pp 4 1,.B (decide (b<e))] (.li ((d.add 0).add 2) fun m1=>.ne m1 e (.nds [.O ((d.add 0).add 2),.O (d.add 0),b,.pp 4 0,.pp 4 0] (.cI 135 #[.bool !D,.int .i64 6] fun o1=>.nds [false,.U,.U,.U,.U,.U,.U,.B (decide (a>0)),a] (.nf (decide (b<e)) false (.li ((d.add 0).add 0) fun p1=>.ne p1 k (.nds [.O ((d.add 0).add 0),.O (d.add 0),.S B n o,.pp 4 2,.pp 4 1,.B (decide (b<e))] (.li ((d.add 0).add 2) fun q1=>.ne q1 e (.nds [.O ((d.add 0).add 2),.O (d.add 0),b,.pp 4 0,.pp 4 0] (.cI 83 #[.slice B n o,k] fun r1=>.nds [false,.U,.U,.U,.U,.U,.U,.B (decide (a>0)),a] (.nf (decide (b<e)) false (.nds [.O ((d.add 0).add 0),.O (d.add 0),.pp 4 2,.pp 4 1,.B (decide (b<e))] (.li ((d.add 0).add 2) fun s1=>.ne s1 e (.nds [.O ((d.add 0).add 2),.O (d.add 0),b,.pp 4 0,.pp 4 0] (.sem false (Instr.buildSlice 272 4 #[(0,.int .i64 i1),(1,.int .i64 m0),(2,.int .i64 o1),(3,.int .i64 r1)]) fun a1=>.unS a1 fun i t1 f=>.nds [false,.U,.U,.U,.U,.U,.U,.B (decide (a>0)),a] (.nf (decide (b<e)) false (.nds [.O ((d.add 0).add 0),.O (d.add 0),.pp 4 2,.pp 4 1,.B (decide (b<e))] (.li ((d.add 0).add 2) fun u1=>.ne u1 e (.nds [.O ((d.add 0).add 2),.O (d.add 0),b,.pp 4 0,.pp 4 0] (.cI 145 #[.slice i t1 f] fun v1=>.nds [false,.U,.U,.U,.U,.U,.U,.B (decide (a>0)),a] (.nf (decide (b<e)) false (.nds [.O ((d.add 0).add 0),.O (d.add 0),.pp 4 2,.pp 4 1,.B (decide (b<e))] (.li ((d.add 0).add 2) fun x1=>.ne x1 e (.nds [.O ((d.add 0).add 2),.O (d.add 0),b,.pp 4 0,.pp 4 0] (.rt (.int .i64 v1))))))))))))))))))))))))))))))))))))))))))))))))))))))))))))))))))))))):=fk [4] [] [] Tryz.f306
end
section
attribute [local irreducible] T.wp CV FWK
variable {h:LH}{p:Option Addr}{n c m:Nat}{l:List Int}{most a b d:Int}{flaw:Value}{X:XP}{Q:Leaf->LH->Prop}{k:Value->T}{z0:Addr}{u:UseFile}
theorem c81(n a b:Int):Pu Tryz.prog 133 #[n,a,b] h (.bool (isIn n a b)):=by
 refine w81 Qk ?_;refine t_if (fun e=>?_) (fun e=>?_)<;>refine Qa ⟨?_,rfl⟩<;>simp[isIn,e]
theorem c83(b:Bool)(n:Int):Pu Tryz.prog 135 #[.bool b,n] h (.int .i64 (if b then n else 0)):=by
 refine w83 Qk ?_;refine Ql (fun e=>?_) (fun e=>?_)<;>refine Qa ⟨?_,rfl⟩<;>simp[e]
theorem c84(n:Int):Pu Tryz.prog 136 #[n] h (.bool (isIn n 0 2000)):=by
 refine w84 Qk ?_;refine t_pu (c81 _ _ _) ?_;refine gZ ?_;exact Qa ⟨rfl,rfl⟩
theorem c132(a b:Int):Pu Tryz.prog 302 #[.agg #[a,b]] h (.bool (isSpan ⟨a,b⟩)):=by
 refine w132 Qk ?_;refine t_pu (c84 _) ?_;refine yI (fun e=>?_) (fun e=>?_)
 ·refine t_pu (c84 _) ?_;refine gZ ?_;refine Ql (fun c=>?_) (fun c=>?_)<;>refine Qa ⟨?_,rfl⟩<;>simp[isSpan,isDay,e,c]
 ·refine Qa ⟨?_,rfl⟩;simp[isSpan,isDay,e]
theorem c96(d:Sl IntE 1 h.get p n l):Pu Tryz.prog 145 #[.slice p n c] h (.int .i64 (firstF (fun _ x=>x) 0 l)):=by
 refine w96 Qk ?_;have q:=d.1;have hb:=d.2.1;refine Qz (fun m vs h'=>h'=h/\∃ i:Nat,vs=[.int .i64 0,.int .i64 i]/\i<=n/\m=n-i/\firstF (fun _ x=>x) 0 l=firstF (fun _ x=>x) i (l.drop i)) ⟨rfl,0,rfl,Nat.zero_le _,rfl,rfl⟩ ?_;rintro Y m vs _ g ⟨rfl,i,rfl,o,rfl,hc⟩;refine yJ (fun e=>?_) (fun e=>?_)
 ·obtain⟨x,a,j,k,f⟩:=d.at (i:=i) (by omega);unfold IntE at f;refine gZ ?_;rw[Jh j]at hc;refine Ql (fun b=>?_) (fun b=>?_)
  ·refine gZ ?_;refine Qa ⟨?_,rfl⟩;rw[hc,firstF,if_pos (by simpa using b)]
  ·refine Qi (g (n-(i+1)) _ _ (by omega) ⟨rfl,i+1,?_,by omega,rfl,?_⟩)
   ·rw[Qh (by omega) (by omega)];rfl
   ·rw[hc,firstF,if_neg (by simpa using b)]
 ·refine gZ ?_;refine Qa ⟨?_,rfl⟩;rw[hc,List.drop_eq_nil_of_le (by omega)];rfl
theorem c94{g:Nat->Int->Int}(j:Sl IntE 1 h.get p n l)(w:∀ (i:Nat) x h',h.le h'->l[i]?=some x->∀ v,v=.int .i64 x->CV X0 Tryz.prog flaw #[.int .i64 i,v] h' fun r f=>h'.le f/\r=.int .i64 (g i x)) :
  Gr Tryz.prog 143 #[.slice p n c,most,flaw] h fun r _=>r=.int .i64 (eachF most g l):=by
 refine w94 Qk ?_;have A:=j.1;have hb:=j.2.1;refine t_if (fun q=>?_) (fun q=>?_)
 ·refine Qa ⟨LH.le_refl _,?_⟩;rw[eachF,if_pos (by omega)]
 refine Qz (fun m vs h'=>h.le h'/\∃ i:Nat,vs=[.int .i64 0,.int .i64 i]/\i<=n/\m=n-i/\firstF g 0 l=firstF g i (l.drop i)) ⟨LH.le_refl _,0,rfl,Nat.zero_le _,rfl,rfl⟩ ?_;rintro Y m vs d u ⟨hle,i,rfl,z,rfl,hc⟩;refine yJ (fun s=>?_) (fun s=>?_)
 ·obtain⟨x,a,k,y,t⟩:=(j.le IntE.grow hle.1).at (i:=i) (by omega);unfold IntE at t;refine gZ ?_;refine Jb (w i x d hle k _ rfl) ?_;rintro _ o ⟨b,rfl⟩;refine gZ ?_;rw[Jh k]at hc;refine Ql (fun e=>?_) (fun e=>?_)
  ·refine gZ ?_;refine Qa ⟨LH.le_trans hle b,?_⟩;rw[eachF,if_neg (by omega),hc,firstF,if_pos (by simpa using e)]
  ·refine Qi (u (n-(i+1)) _ _ (by omega) ⟨LH.le_trans hle b,i+1,?_,by omega,rfl,?_⟩)
   ·rw[Qh (by omega) (by omega)];rfl
   ·rw[hc,firstF,if_neg (by simpa using e)]
 ·refine gZ ?_;refine Qa ⟨hle,?_⟩;rw[eachF,if_neg (by omega),hc,List.drop_eq_nil_of_le (by omega)];rfl
theorem c130{l:List Span}{g:Nat->Span->Int}(j:Sl SpanE 2 h.get p n l)(w:∀ (i:Nat) x h',h.le h'->l[i]?=some x->∀ v,v=.agg #[.int .i64 x.first,.int .i64 x.last]->CV X0 Tryz.prog flaw #[.int .i64 i,v] h' fun r f=>h'.le f/\r=.int .i64 (g i x)) :
  Gr Tryz.prog 300 #[.slice p n c,most,flaw] h fun r _=>r=.int .i64 (eachF most g l):=by
 refine w130 Qk ?_;have B:=j.1;have hb:=j.2.1;refine t_if (fun s=>?_) (fun s=>?_)
 ·refine Qa ⟨LH.le_refl _,?_⟩;rw[eachF,if_pos (by omega)]
 refine Qz (fun m vs h'=>h.le h'/\∃ i:Nat,vs=[.int .i64 0,.int .i64 i]/\i<=n/\m=n-i/\firstF g 0 l=firstF g i (l.drop i)) ⟨LH.le_refl _,0,rfl,Nat.zero_le _,rfl,rfl⟩ ?_;rintro Y m vs d u ⟨hle,i,rfl,A,rfl,hc⟩;refine yJ (fun t=>?_) (fun t=>?_)
 ·obtain⟨x,a,o,z,k⟩:=(j.le SpanE.grow hle.1).at (i:=i) (by omega);obtain⟨k,y⟩:=k;refine gZ ?_;refine Jb (w i x d hle o _ rfl) ?_;rintro _ q ⟨b,rfl⟩;refine gZ ?_;rw[Jh o]at hc;refine Ql (fun e=>?_) (fun e=>?_)
  ·refine gZ ?_;refine Qa ⟨LH.le_trans hle b,?_⟩;rw[eachF,if_neg (by omega),hc,firstF,if_pos (by simpa using e)]
  ·refine Qi (u (n-(i+1)) _ _ (by omega) ⟨LH.le_trans hle b,i+1,?_,by omega,rfl,?_⟩)
   ·rw[Qh (by omega) (by omega)];rfl
   ·rw[hc,firstF,if_neg (by simpa using e)]
 ·refine gZ ?_;refine Qa ⟨hle,?_⟩;rw[eachF,if_neg (by omega),hc,List.drop_eq_nil_of_le (by omega)];rfl
theorem c133{l:List Paper}{g:Nat->Paper->Int}(k:Sl PaperE 4 h.get p n l)(A:∀ (i:Nat) x h',h.le h'->l[i]?=some x->∀ v,(∃ q m d,v=.agg #[.int .i64 x.days.first,.int .i64 x.days.last,.int .i64 x.land,.slice q m d]/\Sl IntE 1 h'.get q m x.items)->CV X0 Tryz.prog flaw #[.int .i64 i,v] h' fun r j=>h'.le j/\r=.int .i64 (g i x)) :
  Gr Tryz.prog 303 #[.slice p n c,most,flaw] h fun r _=>r=.int .i64 (eachF most g l):=by
 refine w133 Qk ?_;have G:=k.1;have hb:=k.2.1;refine t_if (fun u=>?_) (fun u=>?_)
 ·refine Qa ⟨LH.le_refl _,?_⟩;rw[eachF,if_pos (by omega)]
 refine Qz (fun m vs h'=>h.le h'/\∃ i:Nat,vs=[.int .i64 0,.int .i64 i]/\i<=n/\m=n-i/\firstF g 0 l=firstF g i (l.drop i)) ⟨LH.le_refl _,0,rfl,Nat.zero_le _,rfl,rfl⟩ ?_;rintro Y m vs e z ⟨hle,i,rfl,F,rfl,hc⟩;refine yJ (fun w=>?_) (fun w=>?_)
 ·obtain⟨x,a,s,E,o⟩:=(k.le PaperE.grow hle.1).at (i:=i) (by omega);obtain⟨o,B,C,q,m,d,D,y⟩:=o;refine gZ ?_;refine Jb (A i x e hle s _ ⟨_,_,_,rfl,y⟩) ?_;rintro _ t ⟨b,rfl⟩;refine gZ ?_;rw[Jh s]at hc;refine Ql (fun f=>?_) (fun f=>?_)
  ·refine gZ ?_;refine Qa ⟨LH.le_trans hle b,?_⟩;rw[eachF,if_neg (by omega),hc,firstF,if_pos (by simpa using f)]
  ·refine Qi (z (n-(i+1)) _ _ (by omega) ⟨LH.le_trans hle b,i+1,?_,by omega,rfl,?_⟩)
   ·rw[Qh (by omega) (by omega)];rfl
   ·rw[hc,firstF,if_neg (by simpa using f)]
 ·refine gZ ?_;refine Qa ⟨hle,?_⟩;rw[eachF,if_neg (by omega),hc,List.drop_eq_nil_of_le (by omega)];rfl
theorem c135{l:List Request}{g:Nat->Request->Int}(k:Sl RequestE 3 h.get p n l)(A:∀ (i:Nat) x h',h.le h'->l[i]?=some x->∀ v,(∃ q m d,v=.agg #[.int .i64 x.day,.int .i64 x.land,.slice q m d]/\Sl IntE 1 h'.get q m x.items)->CV X0 Tryz.prog flaw #[.int .i64 i,v] h' fun r j=>h'.le j/\r=.int .i64 (g i x)) :
  Gr Tryz.prog 305 #[.slice p n c,most,flaw] h fun r _=>r=.int .i64 (eachF most g l):=by
 refine w135 Qk ?_;have F:=k.1;have hb:=k.2.1;refine t_if (fun u=>?_) (fun u=>?_)
 ·refine Qa ⟨LH.le_refl _,?_⟩;rw[eachF,if_pos (by omega)]
 refine Qz (fun m vs h'=>h.le h'/\∃ i:Nat,vs=[.int .i64 0,.int .i64 i]/\i<=n/\m=n-i/\firstF g 0 l=firstF g i (l.drop i)) ⟨LH.le_refl _,0,rfl,Nat.zero_le _,rfl,rfl⟩ ?_;rintro Y m vs e z ⟨hle,i,rfl,E,rfl,hc⟩;refine yJ (fun w=>?_) (fun w=>?_)
 ·obtain⟨x,a,s,D,o⟩:=(k.le RequestE.grow hle.1).at (i:=i) (by omega);obtain⟨o,B,q,m,d,C,y⟩:=o;refine gZ ?_;refine Jb (A i x e hle s _ ⟨_,_,_,rfl,y⟩) ?_;rintro _ t ⟨b,rfl⟩;refine gZ ?_;rw[Jh s]at hc;refine Ql (fun f=>?_) (fun f=>?_)
  ·refine gZ ?_;refine Qa ⟨LH.le_trans hle b,?_⟩;rw[eachF,if_neg (by omega),hc,firstF,if_pos (by simpa using f)]
  ·refine Qi (z (n-(i+1)) _ _ (by omega) ⟨LH.le_trans hle b,i+1,?_,by omega,rfl,?_⟩)
   ·rw[Qh (by omega) (by omega)];rfl
   ·rw[hc,firstF,if_neg (by simpa using f)]
 ·refine gZ ?_;refine Qa ⟨hle,?_⟩;rw[eachF,if_neg (by omega),hc,List.drop_eq_nil_of_le (by omega)];rfl
theorem flaws2(d:∀ r h',h.le h'->Sl IntE 1 h'.get (some ⟨r,0,none⟩) 2 [a,b]->(k (.slice (some ⟨r,0,none⟩) 2 2)).wp X Tryz.prog Q h'):(T.sem false (Instr.buildSlice 272 2 #[(0,.int .i64 a),(1,.int .i64 b)]) k).wp X Tryz.prog Q h:=by
 refine Zu Yj Y8 (by decide) (by decide) (cells:=#[.int .i64 a,.int .i64 b]) (by kernel_rfl) fun r hr=>?_;refine d r _ (Qr hr) ⟨rfl,by show 2<_;omega,?_⟩;intro i x c;refine⟨_,rfl,?_⟩;show Cells.cell? _ _=_;rw[Qo,Qo];refine Qv ?_
 match i,c with
 | 0,c=>simp at c;subst c;rfl
 | 1,c=>simp at c;subst c;rfl
 | i+2,c=>simp at c
theorem flaws3(e:∀ r h',h.le h'->Sl IntE 1 h'.get (some ⟨r,0,none⟩) 3 [a,b,d]->(k (.slice (some ⟨r,0,none⟩) 3 3)).wp X Tryz.prog Q h'):(T.sem false (Instr.buildSlice 272 3 #[(0,.int .i64 a),(1,.int .i64 b),(2,.int .i64 d)]) k).wp X Tryz.prog Q h:=by
 refine Zu Yj Y8 (by decide) (by decide) (cells:=#[.int .i64 a,.int .i64 b,.int .i64 d]) (by kernel_rfl) fun r hr=>?_;refine e r _ (Qr hr) ⟨rfl,by show 3<_;omega,?_⟩;intro i x c;refine⟨_,rfl,?_⟩;show Cells.cell? _ _=_;rw[Qo,Qo];refine Qv ?_
 match i,c with
 | 0,c=>simp at c;subst c;rfl
 | 1,c=>simp at c;subst c;rfl
 | 2,c=>simp at c;subst c;rfl
 | i+3,c=>simp at c
theorem Yp{e:Int}(f:∀ r h',h.le h'->Sl IntE 1 h'.get (some ⟨r,0,none⟩) 4 [a,b,d,e]->(k (.slice (some ⟨r,0,none⟩) 4 4)).wp X Tryz.prog Q h'):(T.sem false (Instr.buildSlice 272 4 #[(0,.int .i64 a),(1,.int .i64 b),(2,.int .i64 d),(3,.int .i64 e)]) k).wp X Tryz.prog Q h:=by
 refine Zu Yj Y8 (by decide) (by decide) (cells:=#[.int .i64 a,.int .i64 b,.int .i64 d,.int .i64 e]) (by kernel_rfl) fun r hr=>?_;refine f r _ (Qr hr) ⟨rfl,by show 4<_;omega,?_⟩;intro i x c;refine⟨_,rfl,?_⟩;show Cells.cell? _ _=_;rw[Qo,Qo];refine Qv ?_
 match i,c with
 | 0,c=>simp at c;subst c;rfl
 | 1,c=>simp at c;subst c;rfl
 | 2,c=>simp at c;subst c;rfl
 | 3,c=>simp at c;subst c;rfl
 | i+4,c=>simp at c
theorem c95{e:Addr}{below:Int}(h0:h.get.cell? z0=some (.int .i64 below))(o:h.get.cell? e=some (.slice p m c))(b:Sl IntE 1 h.get p m l)(hb:IsI (below-1))(i:Nat)(x:Int)(k:l[i]?=some x) :
  Gr Tryz.prog 144 #[.int .i64 i,x,.pointer (some z0),.pointer (some e)] h fun r _=>r=.int .i64 (riseF l below i x):=by
 refine w95 Qk ?_;have s:i<l.length:=(List.getElem?_eq_some_iff.1 k).1;have hlen:=b.2.1;refine gZ ?_;rw[Qh hb.1 hb.2];refine t_pu (c81 _ _ _) ?_;refine gZ ?_;refine t_pu (c83 _ _) ?_;refine yJ (fun f=>?_) (fun f=>?_)
 ·rw[Qh (by omega) (by omega)];have g:(if (i:Int)-1>0 then (i:Int)-1 else 0)=((i-1:Nat):Int):=by split<;>omega
  rw[g];obtain⟨y,a,n,q,j⟩:=b.at (i:=i-1) (by have:=b.1;omega);unfold IntE at j;have:=b.1;refine gZ ?_;refine t_pu (c83 _ _) ?_;refine gZ ?_;refine flaws2 fun r h' hle d=>?_;refine gZ ?_;refine t_pu (c96 d) ?_;refine gZ ?_;refine Qa ⟨hle,?_⟩;simp[firstF,riseF,n,show 0<i by omega];split<;>simp_all
 ·refine t_pu (c83 _ _) ?_;refine gZ ?_;refine flaws2 fun r h' hle d=>?_;refine gZ ?_;refine t_pu (c96 d) ?_;refine gZ ?_;refine Qa ⟨hle,?_⟩;simp[firstF,riseF,show ¬ 0<i by omega]
theorem c70{below:Int}(f:Sl IntE 1 h.get p n l)(hb:IsI (below-1)):Gr Tryz.prog 83 #[.slice p n c,below] h fun r _=>r=.int .i64 (risesF l below):=by
 refine w70 Qk ?_;refine Z9 fun r hr=>?_;refine Z9 fun j e=>?_;have d:h.le { h with get:=h.get.upd r (true,.cells #[.slice p n c] 47 (0,0)) }:=Qr hr;have a:=Qr (x:=(true,.cells #[.int .i64 below] 3 (0,0))) e;have f0:Cells.cell? (h.get.upd r (true,.cells #[.slice p n c] 47 (0,0))) ⟨r,0,none⟩=some (.slice p n c):=Qv rfl;have f1:Cells.cell? ((h.get.upd r (true,.cells #[.slice p n c] 47 (0,0))).upd j (true,.cells #[.int .i64 below] 3 (0,0))) ⟨j,0,none⟩=some (.int .i64 below):=Qv rfl;have f2:=Qe a.1 f0;refine gL1 f2 ?_;refine gL1 f2 ?_;have b:=f.le IntE.grow (LH.le_trans d a).1;refine t_gr (c94 (g:=riseF l below) b ?_) ?_
 ·rintro i x h' hle k _ rfl;exact Zl Qk (by rfl) (c95 (Qe hle.1 f1) (Qe hle.1 f2) (b.le IntE.grow hle.1) hb i x k)
 ·rintro _ h' hle rfl;refine gZ ?_;refine Qa ⟨LH.le_trans (LH.le_trans d a) hle,?_⟩;rw[risesF,eachF,if_neg (by have:=f.1;omega)]
theorem c126{f:FileC}:Pu Tryz.prog 296 #[fileV f u] h (.int .i64 (numbersF u)):=by
 refine w126 Qk ?_;refine t_pu (c81 _ _ _) ?_;refine yI (fun a=>?_) (fun a=>?_)
 ·refine t_pu (c83 _ _) ?_;refine gZ ?_;refine Qa ⟨?_,rfl⟩;simp at a;simp[numbersF,a]
 refine t_pu (c81 _ _ _) ?_;refine yI (fun b=>?_) (fun b=>?_)
 ·refine t_pu (c83 _ _) ?_;refine gZ ?_;refine Qa ⟨?_,rfl⟩;simp at b;simp[numbersF,b]
 refine t_pu (c84 _) ?_;refine yI (fun c=>?_) (fun c=>?_)
 ·refine t_pu (c83 _ _) ?_;refine gZ ?_;refine Qa ⟨?_,rfl⟩;simp at c;simp[numbersF,isDay,c]
 refine t_pu (c81 _ _ _) ?_;refine gZ ?_;refine t_pu (c83 _ _) ?_;refine gZ ?_;refine Qa ⟨?_,rfl⟩;simp at a b c;simp[numbersF,isDay,a,b,c];split<;>simp_all
theorem c131(i:Int)(a b:Int):Pu Tryz.prog 301 #[i,.agg #[a,b]] h (.int .i64 (if isSpan ⟨a,b⟩ then 0 else 1)):=by
 refine w131 Qk ?_;refine t_pu (c132 _ _) ?_;refine gZ ?_;refine t_pu (c83 _ _) ?_;refine gZ ?_;refine Qa ⟨?_,rfl⟩;cases isSpan ⟨a,b⟩<;>rfl
theorem U4{f:FuncId}{args:Array Value}{v:Value}(c:Pu Tryz.prog f args h v):Gr Tryz.prog f args h fun r _=>r=v :=
 FW.mono c (by rintro _ _ ⟨rfl,rfl⟩;exact⟨LH.le_refl _,rfl⟩)
theorem c127{f:FileC}(hu:FileR h.get f u):Gr Tryz.prog 297 #[fileV f u] h fun r _=>r=.int .i64 (excusesF u):=by
 refine w127 Qk ?_;refine t_gr (c130 (g:=fun _ x=>if isSpan x then 0 else 1) hu.excuses ?_) ?_
 ·rintro i x h' hle a _ rfl;exact Zl Qk (by rfl) (U4 (c131 _ _ _))
 ·rintro _ h' hle rfl;refine gZ ?_;exact Qa ⟨hle,rfl⟩
theorem c86{f:FileC}(a:IsI (u.lands-1))(n:Int):Pu Tryz.prog 138 #[fileV f u,n] h (.bool (isIn n 0 (u.lands-1))):=by
 refine w86 Qk ?_;rw[Qh a.1 a.2];refine t_pu (c81 _ _ _) ?_;refine gZ ?_;exact Qa ⟨rfl,rfl⟩
theorem c134{f:FileC}(b:FileAt h.get z0 f u)(g:IsI (u.lands-1))(e:IsI (u.items-1))(i:Int){p:Paper}{q:Option Addr}(d:Sl IntE 1 h.get q m p.items) :
  Gr Tryz.prog 304 #[i,.agg #[.int .i64 p.days.first,.int .i64 p.days.last,.int .i64 p.land,.slice q m c],.pointer (some z0)] h fun r _=>r=.int .i64 (paperF u p):=by
 refine w134 Qk ?_;obtain⟨f0,f1,f2,f3,f4,f5,f6⟩:=b;refine gZ ?_;refine t_pu (c132 _ _) ?_;refine gZ ?_;refine t_pu (c83 _ _) ?_;refine gZ ?_;refine t_pu (c86 (f:=f) (u:=u) g _) ?_;refine gZ ?_;refine t_pu (c83 _ _) ?_;refine gZ ?_;refine t_gr (c70 d e) ?_;rintro _ h' hle rfl;refine gZ ?_;refine flaws3 fun r j a d=>?_;refine gZ ?_;refine t_pu (c96 d) ?_;refine gZ ?_;refine Qa ⟨LH.le_trans hle a,?_⟩;simp[firstF,paperF];split<;>simp_all;split<;>simp_all
end
section
attribute [local irreducible] T.wp CV FWK
variable {h:LH}{u:UseFile}
theorem fileAt_new{h:Cells}{r:Nat}{f:FileC}{T:TypeId}:FileAt (h.upd r (true,.cells #[.int .i64 u.items,.int .i64 u.lands,.int .i64 u.from_,.int .i64 u.idle,.slice f.p4 f.n4 f.c4,.slice f.p5 f.n5 f.c5,.slice f.p6 f.n6 f.c6] T (0,0))) ⟨r,0,none⟩ f u:=by
 constructor<;>(rw[Qo];exact Qv rfl)
theorem c128{f:FileC}(hu:FileR h.get f u)(e:IsI (u.lands-1))(c:IsI (u.items-1)):Gr Tryz.prog 298 #[fileV f u] h fun r _=>r=.int .i64 (papersF u):=by
 refine w128 Qk ?_;refine Z9 fun r hr=>?_;have b:h.le _:=Qr (x:=(true,.cells #[.int .i64 u.items,.int .i64 u.lands,.int .i64 u.from_,.int .i64 u.idle,.slice f.p4 f.n4 f.c4,.slice f.p5 f.n5 f.c5,.slice f.p6 f.n6 f.c6] 158 (0,0))) hr;have a:=fileAt_new (h:=h.get) (r:=r) (f:=f) (u:=u) (T:=158);refine gL1 a.f5 ?_;refine t_gr (c133 (g:=fun _ p=>paperF u p) (hu.le b.1).papers ?_) ?_
 ·rintro i x h' hle k _ ⟨q,m,d,rfl,j⟩;exact Zl Qk (by rfl) (c134 (a.le hle.1) e c _ j)
 ·rintro _ h' hle rfl;refine gZ ?_;exact Qa ⟨LH.le_trans b hle,rfl⟩
set_option maxRecDepth 100000 in
theorem c136{z0:Addr}{f:FileC}(hu:FileR h.get f u)(o:FileAt h.get z0 f u)(z:IsI (u.lands-1))(x:IsI (u.items-1))(i:Nat){r:Request}(F:u.requests[i]?=some r){q:Option Addr}{m c:Nat}(e:Sl IntE 1 h.get q m r.items) :
  Gr Tryz.prog 306 #[.int .i64 i,.agg #[.int .i64 r.day,.int .i64 r.land,.slice q m c],.pointer (some z0)] h fun v _=>v=.int .i64 (requestF u i r):=by
 refine w136 Qk ?_;have d:=o;obtain⟨f0,f1,f2,f3,f4,f5,f6⟩:=o;have E:i<u.requests.length:=(List.getElem?_eq_some_iff.1 F).1;have hlen:=hu.requests.2.1;have hw:wrap .i64 ((i:Int)-1)=(i:Int)-1:=Qh (by omega) (by omega);refine gZ ?_;refine t_pu (c84 _) ?_;refine gZ ?_;refine t_pu (c83 _ _) ?_;refine yJ (fun g=>?_) (fun g=>?_)
 ·have p:AV.val (.bool (decide (r.day<u.from_)))=AV.val (.bool true):=by simp[g]
  refine gZ ?_;refine t_pu (c83 _ _) ?_;refine gZ ?_;refine t_pu (c86 (f:=f) (u:=u) z _) ?_;refine gZ ?_;refine t_pu (c83 _ _) ?_;refine gZ ?_;refine t_gr (c70 e x) ?_;rintro _ h' hle rfl;obtain⟨j,k,l,n,g4,g5,g6⟩:=d.le hle.1;refine gZ ?_;refine Yp fun C B b e=>?_;obtain⟨j,k,l,n,g4,g5,g6⟩:=d.le (LH.le_trans hle b).1;refine gZ ?_;refine t_pu (c96 e) ?_;refine gZ ?_;refine Qa ⟨LH.le_trans hle b,?_⟩;simp[firstF,requestF,isDay,g];split<;>simp_all
 ·have p:AV.val (.bool (decide (r.day<u.from_)))=AV.val (.bool false):=by simp[g]
  refine yJ (fun s=>?_) (fun s=>?_)
  ·have t:AV.val (.bool (decide ((i:Int)>0)))=AV.val (.bool true):=by rw[decide_eq_true s]
   have D:(if (i:Int)-1>0 then (i:Int)-1 else 0)=((i-1:Nat):Int):=by split<;>omega
   simp only[hw,D];obtain⟨y,a,G,K,A,H,M,L,c5,I,J⟩:=hu.requests.at (i:=i-1) (by have:=hu.requests.1;omega);have:=hu.requests.1;refine gZ ?_;refine t_pu (c83 _ _) ?_;refine gZ ?_;refine t_pu (c86 (f:=f) (u:=u) z _) ?_;refine gZ ?_;refine t_pu (c83 _ _) ?_;refine gZ ?_;refine t_gr (c70 e x) ?_;rintro _ h' hle rfl;have w:=Qe hle.1 A;obtain⟨j,k,l,n,g4,g5,g6⟩:=d.le hle.1;refine gZ ?_;refine Yp fun C B b e=>?_;have w:=Qe (LH.le_trans hle b).1 A;obtain⟨j,k,l,n,g4,g5,g6⟩:=d.le (LH.le_trans hle b).1;refine gZ ?_;refine t_pu (c96 e) ?_;refine gZ ?_;refine Qa ⟨LH.le_trans hle b,?_⟩;simp[firstF,requestF,isDay,g,G,show 0<i by omega];split<;>simp_all;split<;>simp_all;split<;>simp_all
  ·have t:AV.val (.bool (decide ((i:Int)>0)))=AV.val (.bool false):=by rw[decide_eq_false s]
   refine gZ ?_;refine t_pu (c83 _ _) ?_;refine gZ ?_;refine t_pu (c86 (f:=f) (u:=u) z _) ?_;refine gZ ?_;refine t_pu (c83 _ _) ?_;refine gZ ?_;refine t_gr (c70 e x) ?_;rintro _ h' hle rfl;obtain⟨j,k,l,n,g4,g5,g6⟩:=d.le hle.1;refine gZ ?_;refine Yp fun C B b e=>?_;obtain⟨j,k,l,n,g4,g5,g6⟩:=d.le (LH.le_trans hle b).1;refine gZ ?_;refine t_pu (c96 e) ?_;refine gZ ?_;refine Qa ⟨LH.le_trans hle b,?_⟩;simp[firstF,requestF,isDay,g,show ¬ 0<i by omega];split<;>simp_all;split<;>simp_all
theorem c129{f:FileC}(hu:FileR h.get f u)(e:IsI (u.lands-1))(c:IsI (u.items-1)):Gr Tryz.prog 299 #[fileV f u] h fun r _=>r=.int .i64 (Jl u):=by
 refine w129 Qk ?_;refine Z9 fun r hr=>?_;have a:h.le _:=Qr (x:=(true,.cells #[.int .i64 u.items,.int .i64 u.lands,.int .i64 u.from_,.int .i64 u.idle,.slice f.p4 f.n4 f.c4,.slice f.p5 f.n5 f.c5,.slice f.p6 f.n6 f.c6] 158 (0,0))) hr;have b:=fileAt_new (h:=h.get) (r:=r) (f:=f) (u:=u) (T:=158);refine gL1 b.f6 ?_;refine t_gr (c135 (g:=requestF u) (hu.le a.1).requests ?_) ?_
 ·rintro i x h' hle k _ ⟨q,m,d,rfl,j⟩;exact Zl Qk (by rfl) (c136 ((hu.le a.1).le hle.1) (b.le hle.1) e c i k j)
 ·rintro _ h' hle rfl;refine gZ ?_;exact Qa ⟨LH.le_trans a hle,rfl⟩
def Parts(h:Cells):Prop:=(∀ j,j<4->h.cell? ⟨2,j,none⟩=some (.func (.func (296+j)) #[] #[]))
theorem Parts.le{h h':Cells}(b:h.le h')(p:Parts h):Parts h':=fun j a=>Qe b (p j a)
theorem c26{f:FileC}(g:Parts h.get)(hu:FileR h.get f u):Gr Tryz.prog 33 #[fileV f u] h fun r _=>r=.int .i64 (checkF u):=by
 refine w26 Qk ?_;refine Jv (g 0 (by omega)) (Jv (g 1 (by omega)) (Jv (g 2 (by omega)) (Jv (g 3 (by omega)) ?_)));refine Qz (fun m vs h'=>h.le h'/\∃ i:Nat,vs=[.int .i64 0,.int .i64 i]/\i<=4/\m=4-i/\(0<i->numbersF u=0)/\checkF u=firstF (fun _ x=>x) i ([numbersF u,excusesF u,papersF u,Jl u].drop i)) ⟨LH.le_refl _,0,rfl,by omega,rfl,by omega,rfl⟩ ?_;rintro Y m vs c n ⟨hle,i,rfl,p,rfl,a,hc⟩;refine yJ (fun l=>?_) (fun l=>?_)
 ·refine t_index (v:=.func (.func (296+i)) #[] #[]) und98 Yy und87 agg87 (by omega) ?_ ?_
  ·have:i=0\/i=1\/i=2\/i=3:=by omega
   rcases this with rfl|rfl|rfl|rfl<;>rfl
  have key:CV X0 Tryz.prog (.func (.func (296+i)) #[] #[]) #[fileV f u] c fun r h'=>c.le h'/\r=.int .i64 ([numbersF u,excusesF u,papersF u,Jl u].getD i 0):=by
   have d:=hu.le hle.1;have:i=0\/i=1\/i=2\/i=3:=by omega
   rcases this with rfl|rfl|rfl|rfl
   ·exact Zl Qk (by rfl) (U4 c126)
   ·exact Zl Qk (by rfl) (c127 d)
   ·exact Zl Qk (by rfl) (c128 d (Kf (a (by omega))) (Ge (a (by omega))))
   ·exact Zl Qk (by rfl) (c129 d (Kf (a (by omega))) (Ge (a (by omega))))
  refine Jb key ?_;rintro _ k ⟨b,rfl⟩;refine gZ ?_;have o:[numbersF u,excusesF u,papersF u,Jl u].drop i=[numbersF u,excusesF u,papersF u,Jl u].getD i 0::[numbersF u,excusesF u,papersF u,Jl u].drop (i+1):=by
   have:i=0\/i=1\/i=2\/i=3:=by omega
   rcases this with rfl|rfl|rfl|rfl<;>rfl
  rw[o]at hc;refine Ql (fun e=>?_) (fun e=>?_)
  ·refine gZ ?_;refine Qa ⟨LH.le_trans hle b,?_⟩;rw[hc,firstF,if_pos (by simpa using e)]
  ·refine Qi (n (4-(i+1)) _ _ (by omega) ⟨LH.le_trans hle b,i+1,?_,by omega,rfl,fun _=>?_,?_⟩)
   rotate_left
   ·rcases Nat.eq_zero_or_pos i with rfl|j
    ·simpa using e
    ·exact a j
   rotate_left
   ·rw[Qh (by omega) (by omega)];rfl
   ·rw[hc,firstF,if_neg (by simpa using e)]
 ·refine gZ ?_;refine Qa ⟨hle,?_⟩;rw[hc,List.drop_eq_nil_of_le (by simp;omega)];rfl
end
end Go.Y
namespace Go.TM
section
open Go.ChangeShapes Go.RowKit
theorem trodAll2{H:Type}{enc:TypeId×Value->H}{P:Program}{w:World}{base:Nat}{spare:Nat->Bool}{held:Bool}{t0 t1:TypeId}{args:Array Value}{ds:List (DataW H)}{ps:List MemPlace}(h:DataW.TrodAll enc P w base spare held [t0,t1] args.toList ds ps) :
  ∃ v0 v1 d0 d1 a b,args=#[v0,v1]/\ds=[d0,d1]/\ps=a++b/\DataW.Trod enc P w base spare held t0 v0 d0 a/\DataW.Trod enc P w base spare held t1 v1 d1 b:=by
 obtain⟨v0,j,d0,g,a,l,hargs,rfl,rfl,c,e⟩:=trodAll_cons h;obtain⟨v1,k,d1,i,b,m,rfl,rfl,rfl,d,f⟩:=trodAll_cons e;obtain⟨rfl,rfl,rfl⟩:=trodAll_nil f;exact⟨v0,v1,d0,d1,a,b,by cases args;simp_all,rfl,by simp,c,d⟩
end
section
variable {P:Program} {E:Halt->Cells->Prop} {h:Cells}
def Wz(P:Program)(t:TypeId):Bool:=match P.underlying t with
 | some (.int .i64)=>true
 | _=>false
def twoInts(P:Program)(t:TypeId):Bool:=match P.underlying t with
 | some (.struct fs)=>(match fs.toList with
  | [a, b] => a.name != "_" && b.name != "_" && Wz P a.type && Wz P b.type && Nat.beq a.offset 0 && Nat.beq b.offset 1
  | _=>false)&&!P.stoodInHeld t
 | _=>false
variable {t kt et:TypeId}{v k z:Value}{d a b c:Int}{s m:Nat}{es:Array MapEntry}{ok:Bool}{K:Value->T}{x y:Operand}{h₀:LH}{init:List Value}
theorem Kk(a:Wz P t=true):P.underlying t=some (.int .i64):=by
 unfold Wz at a;split at a
 ·assumption
 ·cases a
theorem isI64_agg(a:Wz P t=true):isAggT P t=false:=by
 unfold isAggT;rw[Kk a]
theorem Zt(ht : twoInts P t = true) : ∃ a b : Field, P.underlying t = some (.struct #[a, b]) /\ a.name ≠ "_" /\ b.name ≠ "_" /\ Wz P a.type = true /\ Wz P b.type = true /\ a.offset = 0 /\ b.offset = 1 /\ P.stoodInHeld t = false := by
 unfold twoInts at ht;split at ht
 ·rename_i fs hu;simp only[Bool.and_eq_true,Bool.not_eq_true']at ht;obtain⟨h1,h2⟩:=ht;split at h1
  ·rename_i a b hfs;simp only[Bool.and_eq_true,bne_iff_ne]at h1;obtain⟨⟨⟨⟨⟨h3,h4⟩,h5⟩,h6⟩,h7⟩,h8⟩:=h1;have:fs=#[a,b]:=by rw[<- hfs]
   exact⟨a,b,by rw[hu,this],h3,h4,h5,h6,Q6 h7,Q6 h8,h2⟩
  ·cases h1
 ·cases ht
theorem Jt{Q:Value->Cells->Prop}{cs:Array Value}{o:Nat}(a:Wz P t=true)(hv:cs[o]?=some v)(b:Q v h):Qd P (part t cs o) Q E h:=by
 unfold part;rw[lwp_bind,Z0 (Kk a) (isI64_agg a)];simp only[Bool.false_eq_true,if_false,hv];exact b
theorem Ki{Q:Bool->Cells->Prop}{d:Nat}(e:Wz P t=true)(c:Q (a==b) h):Qd P (Op.equalIn (d+1) t (.int .i64 a) (.int .i64 b)) Q E h:=by
 unfold Op.equalIn;rw[lwp_bind,Qc (Kk e)];exact c
theorem H5{Q:Bool->Cells->Prop}(p:twoInts P t=true)(l:Q (decide (a=c/\b=d)) h):Qd P (Op.equal t (.agg #[a,b]) (.agg #[c,d])) Q E h:=by
 obtain⟨f,g,hu,q,r,i1,i2,m,n,o⟩:=Zt p;unfold Op.equal;have k:Op.maxDepth=9998+1+1:=rfl;rw[k,Op.equalIn];rw[lwp_bind,Qc hu];simp only[lwp_bind,Jm,o,Bool.false_eq_true,if_false,List.forIn_toArray,List.forIn_cons,List.forIn_nil,q,r,ne_eq,not_false_eq_true,if_true];refine Jt i1 (v:=.int .i64 a) (by rw[m];rfl) ?_;refine Jt i1 (v:=.int .i64 c) (by rw[m];rfl) ?_;refine Ki i1 ?_;by_cases e:a=c
 ·subst e;simp only[beq_self_eq_true,Bool.not_true,Bool.false_eq_true,if_false,Qg,lwp_bind];refine Jt i2 (v:=.int .i64 b) (by rw[n];rfl) ?_;refine Jt i2 (v:=.int .i64 d) (by rw[n];rfl) ?_;refine Ki i2 ?_;by_cases i:b=d
  ·subst i;simpa[Qg] using l
  ·have j:(b==d)=false:=by simpa using i
   simpa[Qg,i,j] using l
 ·have j:(a==c)=false:=by simpa using e
  simpa[Qg,e,j] using l
def IsKey(P:Program)(kt:TypeId)(v:Value):Prop:=(Wz P kt=true/\∃ n,v=.int .i64 n)\/(twoInts P kt=true/\∃ a b,v=.agg #[.int .i64 a,.int .i64 b])
theorem lwp_checkKey{Q:Unit->Cells->Prop}{e:Bool}(j:IsKey P kt v)(i:Q () h):Qd P (Instr.checkKey e 10000 kt v) Q E h:=by
 have one:∀ {Q:Unit->Cells->Prop} {d:Nat} {t:TypeId} {n:Int},Wz P t=true->Q () h->Qd P (Instr.checkKey e (d+1) t (.int .i64 n)) Q E h:=by
  intro Q d t n c i;unfold Instr.checkKey;rw[lwp_bind,Qc (Kk c)];exact i
 rcases j with⟨c,n,rfl⟩|⟨c,a,b,rfl⟩
 ·exact one (d:=9999) c i
 ·obtain⟨f,g,hu,k,l,i1,i2,m,o,p⟩:=Zt c;rw[show (10000:Nat)=9998+1+1 from rfl,Instr.checkKey];rw[lwp_bind,Qc hu];simp only[lwp_bind,List.forIn_toArray,List.forIn_cons,List.forIn_nil,k,l,ne_eq,not_false_eq_true,if_true,Qg];refine Jt i1 (v:=.int .i64 a) (by rw[m];rfl) ?_;refine one i1 ?_;refine Jt i2 (v:=.int .i64 b) (by rw[o];rfl) ?_;exact one i2 i
theorem findNow_int{t:TypeId}{n:Int}:∀ (es:List MapEntry) (i:Nat),(∀ e∈es,∃ m,e.key=.int .i64 m) ->
  (∃ j e,es[j]?=some e/\e.key=.int .i64 n/\Instr.findNow (.int .i64) (.int .i64 n) es i=some (some (i+j,e.val)))\/((∀ e∈es,e.key≠.int .i64 n)/\Instr.findNow (.int .i64) (.int .i64 n) es i=some none):=by
 intro es
 induction es with
 | nil=>intro i _;exact .inr ⟨fun e he=>by simp at he,rfl⟩
 | cons e es k =>
  intro i d;obtain⟨m,hm⟩:=d e (by simp);unfold Instr.findNow;rw[hm];simp only[Instr.sameNow,if_true];by_cases b:n=m
  ·subst b;left;refine⟨0,e,rfl,hm,?_⟩;simp
  ·have hb:(n==m)=false:=by simpa using b
   rw[hb];simp only[];rcases k (i+1) (fun c a=>d c (by simp[a])) with⟨j,c,f,g,h⟩|⟨f,g⟩
   ·left;exact⟨j+1,c,by simpa using f,g,by rw[h];congr 3;omega⟩
   ·right;refine⟨fun c a=>?_,g⟩;rcases List.mem_cons.1 a with rfl|a
    ·rw[hm];intro hc;cases hc;exact b rfl
    ·exact f c a
theorem lwp_findAsking{Q:Option (Nat×Value)->Cells->Prop}(q:twoInts P kt=true):∀ (es:List MapEntry) (i:Nat),(∀ e∈es,∃ c d,e.key=.agg #[.int .i64 c,.int .i64 d]) ->
  (∀ j e,es[j]?=some e->e.key=.agg #[a,b]->Q (some (i+j,e.val)) h)->((∀ e∈es,e.key≠.agg #[a,b])->Q none h)->Qd P (Instr.findAsking kt (.agg #[a,b]) es i) Q E h:=by
 intro es
 induction es with
 | nil=>intro i _ _ m;exact m fun e he=>by simp at he
 | cons e es r =>
  intro i l o m;obtain⟨c,d,hm⟩:=l e (by simp);unfold Instr.findAsking;rw[lwp_bind,hm];refine H5 q ?_;by_cases g:a=c/\b=d
  ·obtain⟨rfl,rfl⟩:=g;simp only[and_self,decide_true,if_true,Qg];have:=o 0 e rfl hm;simpa using this
  ·simp only[g,decide_false,Bool.false_eq_true,if_false];refine r (i+1) (fun k f=>l k (by simp[f])) (fun j k f p=>?_) fun n=>m fun k f=>?_
   ·have:=o (j+1) k (by simpa using f) p;rw[show i+1+j=i+(j+1) by omega];exact this
   ·rcases List.mem_cons.1 f with rfl|f
    ·rw[hm];intro hc;simp only[Value.agg.injEq,Array.mk.injEq,List.cons.injEq,Value.int.injEq,and_true,true_and]at hc;exact g ⟨hc.1.symm,hc.2.symm⟩
    ·exact n k f
theorem lwp_findKey{Q:Option (Nat×Value)->Cells->Prop}{es:List MapEntry}(v:IsKey P kt k)(o:∀ e∈es,IsKey P kt e.key)(w:∀ j e,es[j]?=some e->e.key=k->Q (some (j,e.val)) h)(s:(∀ e∈es,e.key≠k)->Q none h):Qd P (Instr.findKey kt k es) Q E h:=by
 unfold Instr.findKey;rcases v with⟨p,n,rfl⟩|⟨p,a,b,rfl⟩
 ·rw[lwp_bind,Qc (Kk p)];have i:∀ e∈es,∃ m,e.key=.int .i64 m:=by
   intro e he;rcases o e he with⟨_,m,hm⟩|⟨l,_⟩
   ·exact⟨m,hm⟩
   ·obtain⟨f,g,hu,_⟩:=Zt l;rw[Kk p]at hu;cases hu
  rcases findNow_int (t:=kt) (n:=n) es 0 i with⟨j,e,q,r,y⟩|⟨q,r⟩
  ·rw[y];simp only[Qg];have:=w j e q r;simpa using this
  ·rw[r];exact s q
 ·obtain⟨f,g,hu,_⟩:=Zt p;rw[lwp_bind,Qc hu];have i:∀ e∈es,∃ c d,e.key=.agg #[.int .i64 c,.int .i64 d]:=by
   intro e he;rcases o e he with⟨l,_⟩|⟨_,c,d,hm⟩
   ·rw[Kk l]at hu;cases hu
   ·exact⟨c,d,hm⟩
  cases es with
  | nil=>exact s fun e he=>by simp at he
  | cons e es =>
   obtain⟨c,d,hm⟩:=i e (by simp);have:Instr.findNow (.struct #[f,g]) (.agg #[.int .i64 a,.int .i64 b]) (e::es) 0=none:=by
    unfold Instr.findNow;rw[hm];rfl
   rw[this];refine lwp_findAsking p (e::es) 0 i (fun j x u v=>?_) s;have:=w j x u v;simpa using this
def MapAt(h:Cells)(m:Nat)(es:Array MapEntry):Prop:=∃ c,h m=some (true,.map es c)
theorem lwp_lookup{Q:Value->Cells->Prop}{b:Nat}(hu:P.underlying t=some (.map kt et))(q:(P.info? et).map (fun i=>(i.size,i.bytes,i.zero))=some (s,b,some z))(hm:MapAt h m es)(l:IsKey P kt k)(d:∀ e∈es.toList,IsKey P kt e.key)
 (o:∀ e∈es.toList,e.key=k->Q (if ok then .tuple #[e.val,.bool true] else e.val) h)(p:(∀ e∈es.toList,e.key≠k)->Q (if ok then .tuple #[z,.bool false] else z) h):Qd P (Instr.lookup t (.map (some m)) k ok) Q E h:=by
 obtain⟨inf,n,_,_,g4⟩:=Zk q;obtain⟨c,f⟩:=hm;unfold Instr.lookup;rw[lwp_bind,Qc hu];simp only[lwp_bind];refine⟨_,_,f,trivial,?_⟩;show Qd P (_ >>= _) Q E h;rw[lwp_bind,Qg,lwp_bind];refine lwp_checkKey l ?_;rw[lwp_bind];refine lwp_findKey l d (fun j e he a=>?_) fun g=>?_
 ·simp only[Qg,lwp_bind];have:=o e (List.mem_of_getElem? he) a;cases ok<;>exact this
 ·simp only[lwp_bind,Je n g4,Qg];have:=p g;cases ok<;>exact this
theorem sameBits_key(c:IsKey P kt k):Instr.sameBits 10000 k k=true:=by
 rcases c with⟨_,n,rfl⟩|⟨_,a,b,rfl⟩
 ·simp[Instr.sameBits]
 ·rw[show (10000:Nat)=9999+1 from rfl];simp[Instr.sameBits]
theorem lwp_mapUpdate{Q:Unit->Cells->Prop}(hu:P.underlying t=some (.map kt et))(hm:MapAt h m es)(s:IsKey P kt k)(q:∀ e∈es.toList,IsKey P kt e.key)
 (w:∀ es' c,(∀ e∈es'.toList,(e.key=k/\e.val=v)\/e∈es.toList)->(∃ e∈es'.toList,e.key=k)->(∀ e∈es.toList,∃ x∈es'.toList,x.key=e.key)->Q () (h.upd m (true,.map es' c))):Qd P (Instr.mapUpdate t (.map (some m)) k v) Q E h:=by
 obtain⟨c,o⟩:=hm;unfold Instr.mapUpdate;rw[lwp_bind,Qc hu];simp only[lwp_bind];refine⟨_,_,o,trivial,?_⟩;show Qd P (_ >>= _) _ E h;rw[lwp_bind];refine lwp_checkKey s ?_;rw[lwp_bind];refine lwp_findKey s q (fun j e he p=>?_) fun y=>?_
 ·have l:es[j]?=some e:=by rw[<- Array.getElem?_toList];exact he
  simp only[lwp_bind,Instr.keyThatStays,l,Option.map_some,Option.getD_some,p,sameBits_key s,if_true,Qg];refine⟨⟨_,o,trivial⟩,?_⟩;have f:∀ i:Nat,(es.modify j fun e=>{ e with key:=k,val:=v })[i]?=if i=j then (es[i]?).map (fun e=>{ e with key:=k,val:=v }) else es[i]?:=by
   intro i;rw[Array.getElem?_modify];by_cases b:j=i
   ·subst b;simp
   ·rw[if_neg b,if_neg (Ne.symm b)]
  refine w _ _ (fun g a=>?_) ⟨{ e with key:=k,val:=v },?_,rfl⟩ fun g a=>?_
  ·obtain⟨i,r,n⟩:=List.getElem_of_mem a;have d:(es.modify j fun e=>{ e with key:=k,val:=v })[i]?=some g:=by rw[<- Array.getElem?_toList,List.getElem?_eq_getElem r,n]
   rw[f]at d;by_cases b:i=j
   ·rw[if_pos b]at d;cases u:es[i]? with
    | none=>rw[u]at d;cases d
    | some z=>rw[u]at d;simp only[Option.map_some,Option.some.injEq]at d;subst d;exact .inl ⟨rfl,rfl⟩
   ·rw[if_neg b]at d;right;exact List.mem_of_getElem? (i:=i) (by rw[Array.getElem?_toList];exact d)
  ·refine List.mem_of_getElem? (i:=j) ?_;rw[Array.getElem?_toList,f,if_pos rfl,l];rfl
  ·obtain⟨i,r,n⟩:=List.getElem_of_mem a;have d:es[i]?=some g:=by rw[<- Array.getElem?_toList,List.getElem?_eq_getElem r,n]
   by_cases b:i=j
   ·refine⟨{ g with key:=k,val:=v },List.mem_of_getElem? (i:=i) ?_,?_⟩
    ·rw[Array.getElem?_toList,f,if_pos b,d];rfl
    ·subst b;rw[l]at d;cases d;exact p.symm
   ·exact⟨g,List.mem_of_getElem? (i:=i) (by rw[Array.getElem?_toList,f,if_neg b,d]),rfl⟩
 ·refine⟨⟨_,o,trivial⟩,?_⟩;refine w _ _ (fun g a=>?_) ⟨{ key:=k,val:=v,born:=c },by simp,rfl⟩ fun g a=>⟨g,by rw[Array.toList_push];exact List.mem_append_left _ a,rfl⟩;simp only[Array.toList_push,List.mem_append,List.mem_singleton]at a;rcases a with a|rfl
  ·exact .inr a
  ·exact .inl ⟨rfl,rfl⟩
variable {X:XP} {Q:Leaf->LH->Prop}
theorem D2{h:LH}{k:Value->T}(a:∀ r,h.get r=none->(k (.map (some r))).wp X P Q { h with get:=h.get.upd r (true,.map #[] 0) }):(T.sem false (Instr.makeMap t none) k).wp X P Q h:=by
 refine Q9 (A:=fun v h'=>∃ r,h.get r=none/\v=.map (some r)/\h'=h.get.upd r (true,.map #[] 0)) ?_ (by rintro v h' ⟨r,hr,rfl,rfl⟩;exact a r hr);unfold Instr.makeMap;rw[lwp_bind];intro r hr;exact⟨r,hr,rfl,rfl⟩
theorem Ut{h:LH}{b:Nat}(hu:P.underlying t=some (.map kt et))(j:(P.info? et).map (fun i=>(i.size,i.bytes,i.zero))=some (s,b,some z))(hm:MapAt h.get m es)(l:IsKey P kt k)(c:∀ e∈es.toList,IsKey P kt e.key)
 (f:∀ e∈es.toList,e.key=k->(K (if ok then .tuple #[e.val,.bool true] else e.val)).wp X P Q h)(g:(∀ e∈es.toList,e.key≠k)->(K (if ok then .tuple #[z,.bool false] else z)).wp X P Q h):(T.sem false (Instr.lookup t (.map (some m)) k ok) K).wp X P Q h :=
 Q9 (A:=fun v h'=>h'=h.get/\(K v).wp X P Q h) (lwp_lookup hu j hm l c (fun e he a=>⟨rfl,f e he a⟩) fun d=>⟨rfl,g d⟩) (by rintro v h' ⟨rfl,hw⟩;exact hw)
theorem t_mapUpdate{h:LH}(hu:P.underlying t=some (.map kt et))(hm:MapAt h.get m es)(i:IsKey P kt k)(f:∀ e∈es.toList,IsKey P kt e.key)
 (j:∀ es' c,(∀ e∈es'.toList,(e.key=k/\e.val=v)\/e∈es.toList)->(∃ e∈es'.toList,e.key=k)->(∀ e∈es.toList,∃ g∈es'.toList,g.key=e.key)->(K undef).wp X P Q { h with get:=h.get.upd m (true,.map es' c) }):(T.sem false (Sem.bind (Instr.mapUpdate t (.map (some m)) k v) fun _=>pure (.tuple #[])) K).wp X P Q h:=by
 refine Q9 (A:=fun v h'=>v=undef/\(K undef).wp X P Q { h with get:=h' }) (Qu _ _ (lwp_mapUpdate hu hm i f fun es' c a b d=>⟨rfl,j es' c a b d⟩)) (by rintro v h' ⟨rfl,hw⟩;exact hw)
theorem t_struct{h:LH}{l:List (Nat×Value)}(hb:buildV P t l=some v)(a:(K v).wp X P Q h):(T.sem false (Instr.build t l.toArray) K).wp X P Q h :=
 Q9 (A:=fun w h'=>w=v/\h'=h.get) (lwp_build hb ⟨rfl,rfl⟩) (by rintro w h' ⟨rfl,rfl⟩;exact a)
theorem t_eq2{h:LH}(g:twoInts P t=true)(e:P.eqGuardType P.depth t=false)(f:(K (.bool (decide (a=c/\b=d)))).wp X P Q h) :
  (T.sem false (Sem.bind (eqGuard .eql t x y (.agg #[a,b]) (.agg #[c,d])) fun _=>binOp .eql t (.agg #[a,b]) (.agg #[c,d])) K).wp X P Q h:=by
 refine Q9 (A:=fun w h'=>w=.bool (decide (a=c/\b=d))/\h'=h.get) (Qu _ _ ?_) (by rintro w h' ⟨rfl,rfl⟩;exact f);unfold eqGuard;simp only[Bool.not_true,Bool.false_eq_true,if_false,lwp_bind,Jm,e,Bool.not_false,if_true,Qg];unfold binOp;rw[lwp_bind];exact H5 g ⟨rfl,rfl⟩
theorem Yx{h:LH}(g:twoInts P t=true)(e:P.eqGuardType P.depth t=false)(f:(K (.bool (!decide (a=c/\b=d)))).wp X P Q h) :
  (T.sem false (Sem.bind (eqGuard .neq t x y (.agg #[a,b]) (.agg #[c,d])) fun _=>binOp .neq t (.agg #[a,b]) (.agg #[c,d])) K).wp X P Q h:=by
 refine Q9 (A:=fun w h'=>w=.bool (!decide (a=c/\b=d))/\h'=h.get) (Qu _ _ ?_) (by rintro w h' ⟨rfl,rfl⟩;exact f);unfold eqGuard;simp only[Bool.not_true,Bool.false_eq_true,if_false,lwp_bind,Jm,e,Bool.not_false,if_true,Qg];unfold binOp;rw[lwp_bind];exact H5 g ⟨rfl,rfl⟩
theorem Hands.g{L:List (List Value)}(e:Hands X P v h₀ L):HandsG X P v h₀ (fun (i:Nat) xs j=>L[i]?=some xs/\j=i+1) (fun i=>i=L.length) 0:=by
 intro y J E f d hc h hle h0;refine CV.mono (e y J E f d (fun i h xs l m k=>hc i h xs (i+1) l ⟨m,rfl⟩ k) h hle h0) ?_;rintro b h' ⟨c,a|a⟩
 ·exact⟨c,.inl ⟨_,rfl,a⟩⟩
 ·exact⟨c,.inr a⟩
theorem Hc(h:LH):h.add (fun _=>none)=h:=by
 unfold LH.add;have:h.get.add (fun _=>none)=h.get:=by funext b;unfold Cells.add;cases h.get b<;>rfl
 rw[this]
theorem HandsG.f{S:Type}{nx:S->List Value->S->Prop}{fin:S->Prop}{a:S}(c:HandsG X P v h₀ nx fin a):HandsF X P v h₀ (fun _=>none) nx fin a:=by
 intro y J E d b hc h hle h0 _;rw[Hc];exact c y J E d b hc h hle h0
theorem t_eachF{h hm:LH}{k₀:Cells}{body:List Value->List Value->T}{kf kb r:List Value->T}{q:Nat->List Value->T}{S:Type}{nx:S->List Value->S->Prop}{fin:S->Prop}{b:S}(μ:S->Nat)(m:∀ s xs c,nx s xs c->μ c<μ s)
 (heq:h=hm.add k₀)(i:Disj hm.get k₀)(hle:h₀.le hm)(t:HandsF X P v h₀ k₀ nx fin b)
 (I:S->List Value->LH->Prop)(h0:I b init hm)
 (e:∀ s vs h',fin s->h₀.le h'->I s vs h'->(kf vs).wp X P Q h')
 (hb:∀ s xs c vs h',nx s xs c->h₀.le h'->I s vs h'->∀ Y:List Value->LH->Prop,(∀ d a,h₀.le a->I c d a->Y d a) ->
   (body xs vs).wp X P (fun l a=>h₀.le a/\l.go a Y (fun vs h'=>(kb vs).wp X P Q h') (fun vs h'=>(r vs).wp X P Q h') (fun j vs h'=>(q j vs).wp X P Q h')) h'):(T.each v init body kf kb r q).wp X P Q h:=by
 refine⟨S,nx,fin,b,h₀,hm,k₀,heq,i,hle,t,fun Y u=>?_⟩;have key:∀ n s,μ s=n->∀ vs h',h₀.le h'->I s vs h'->Y s vs h':=by
  intro n
  induction n using Nat.strongRecOn with
  | ind n y =>
   intro s x vs h' k o;refine u s vs h' k (fun w=>e s vs h' w k o) fun xs c p=>?_;exact hb s xs c vs h' p k o _ fun d a g f=>y (μ c) (x▸m s xs c p) c rfl d a g f
 exact key _ b rfl init hm hle h0
theorem t_eachG{h:LH}{body:List Value->List Value->T}{kf kb k:List Value->T}{i:Nat->List Value->T}{S:Type}{nx:S->List Value->S->Prop}{fin:S->Prop}{b:S}(μ:S->Nat)(g:∀ s xs d,nx s xs d->μ d<μ s)(hle:h₀.le h)(m:HandsG X P v h₀ nx fin b)
 (I:S->List Value->LH->Prop)(h0:I b init h)
 (c:∀ s vs h',fin s->h₀.le h'->I s vs h'->(kf vs).wp X P Q h')
 (hb:∀ s xs d vs h',nx s xs d->h₀.le h'->I s vs h'->∀ Y:List Value->LH->Prop,(∀ e a,h₀.le a->I d e a->Y e a) ->
   (body xs vs).wp X P (fun l a=>h₀.le a/\l.go a Y (fun vs h'=>(kb vs).wp X P Q h') (fun vs h'=>(k vs).wp X P Q h') (fun j vs h'=>(i j vs).wp X P Q h')) h'):(T.each v init body kf kb k i).wp X P Q h:=by
 exact t_eachF μ g (hm:=h) (k₀:=fun _=>none) (Hc h).symm (fun _=>.inr rfl) hle (m.f) I h0 c hb
theorem t_each{h:LH}{body:List Value->List Value->T}{kf kb m:List Value->T}{k:Nat->List Value->T}{L:List (List Value)}(hle:h₀.le h)(o:Hands X P v h₀ L)(I:Nat->List Value->LH->Prop)(h0:I 0 init h)
 (b:∀ vs h',h₀.le h'->I L.length vs h'->(kf vs).wp X P Q h')
 (hb:∀ i xs vs h',L[i]?=some xs->h₀.le h'->I i vs h'->∀ Y:List Value->LH->Prop,(∀ c a,h₀.le a->I (i+1) c a->Y c a) ->
   (body xs vs).wp X P (fun l a=>h₀.le a/\l.go a Y (fun vs h'=>(kb vs).wp X P Q h') (fun vs h'=>(m vs).wp X P Q h') (fun j vs h'=>(k j vs).wp X P Q h')) h'):(T.each v init body kf kb m k).wp X P Q h:=by
 refine t_eachG (fun i=>L.length-i) (fun i xs j d=>?_) hle o.g I h0 (fun s vs h' p f e=>b vs h' f (p▸e)) fun i xs j vs h' d f e=>?_
 ·have:=(List.getElem?_eq_some_iff.1 d.1).1;have:=d.2;omega
 ·obtain⟨n,rfl⟩:=d;exact hb i xs vs h' n f e
end
section
variable {P:Program} {E:Halt->Cells->Prop} {h:Cells}
section
variable {X:XP} {Q:Leaf->LH->Prop}
theorem t_makeSlice{h:LH}{K:Value->T}{t el:TypeId}{n b:Nat}{z:Value}(hu:P.underlying t=some (.slice el))(y:(P.info? el).map (fun i=>(i.size,i.bytes,i.zero))=some (1,b,some z))(E:z.cells=#[z])(hb:b<=1024)(D:n<=2^30)
 (C:∀ r cs,h.get r=none->cs.size=n->(∀ j,j<n->cs[j]?=some z)->(K (.slice (some ⟨r,0,none⟩) n n)).wp X P Q { h with get:=h.get.upd r (true,.cells cs el (0,0)) }):(T.sem false (Instr.makeSlice t (.int .i64 (n:Int)) (.int .i64 (n:Int))) K).wp X P Q h:=by
 obtain⟨inf,f,p,q,g4⟩:=Zk y;refine Q9 (A:=fun v h'=>∃ r cs,h.get r=none/\cs.size=n/\(∀ j,j<n->cs[j]?=some z)/\v=.slice (some ⟨r,0,none⟩) n n/\h'=h.get.upd r (true,.cells cs el (0,0))) ?_ (by rintro v h' ⟨r,cs,s,u,w,rfl,rfl⟩;exact C r cs s u w);unfold Instr.makeSlice;have hw:IntKind.i64.wrap (n:Int)=n:=Qh (by omega) (by omega);simp only[lwp_bind,Qc hu,asInt,asIntOf,Qg,Jq f,hw,q];have g:b*n<=1024*2^30:=Nat.mul_le_mul hb D;have hle:((b:Int)*(n:Int))<=1024*2^30:=by
  have:((b*n:Nat):Int)<=((1024*2^30:Nat):Int):=Int.ofNat_le.2 g;simpa using this
 have m:¬ ((decide ((n:Int)<0)||decide (((b:Int)*(n:Int))>2^48)||decide ((n:Int)<0)||decide ((n:Int)>(n:Int)))=true):=by
  simp;omega
 have o:(((decide ((n:Int)<0)||decide (((b:Int)*(n:Int))>2^48))||decide ((n:Int)<0))||decide ((n:Int)>(n:Int)))=false:=by
  simp;omega
 rw[if_neg (by simpa using o)];have c:∀ {K:Unit->Cells->Prop},K () h.get->Qd P (askRoom ((n:Int).toNat*b)) K (fun _ _=>False) h.get:=by
  intro K l;unfold askRoom;split
  ·exact⟨.inl rfl,l⟩
  ·exact l
 simp only[lwp_bind];refine c ?_;simp only[Qy f,p,Nat.mul_one,Int.toNat_natCast];have fin:∀ d:Array Value,(n≠0->d=#[z])->Qd P (newRow el ((Array.range n).map fun x=>d[x%d.size]!)) (fun a h'=>Qd P (pure (Value.slice (some a) n n)) (fun v h'=>∃ r cs,h.get r=none/\cs.size=n/\(∀ j,j<n->cs[j]?=some z)/\v=.slice (some ⟨r,0,none⟩) n n/\h'=h.get.upd r (true,.cells cs el (0,0))) (fun _ _=>False) h') (fun _ _=>False) h.get:=by
  intro d k;refine Zf fun r hr=>?_;rw[Qg];refine⟨r,_,hr,by simp,fun j B=>?_,rfl,rfl⟩;have:=k (by omega);subst this;simp[B,Nat.mod_one]
 by_cases h0:n=0
 ·simp only[h0,if_true,Qg];subst h0;exact fin #[] (fun e=>absurd rfl e)
 ·simp only[if_neg h0,lwp_bind,Je f g4,Qg,E];exact fin #[z] (fun _=>rfl)
theorem CV.frame(p:XOK X){v:Value}{args:Array Value}{h:LH}{A:Value->LH->Prop}(c:CV X P v args h A){k:Cells}(d:Disj h.get k):CV X P v args (h.add k) fun r a=>∃ h',Disj h'.get k/\a=h'.add k/\A r h':=by
 intro main R o fr cs s;have e:=c main (fun g h=>Disj h.get k->R g (h.add k)) (o.frame p k) fr cs ?_
 ·refine Q4 _ (Kh _ e d) ?_ ?_
  ·rintro nx a ⟨h',l,rfl,i⟩;cases nx<;>first|exact i.elim|exact i l
  ·rintro t a ⟨_,_,_,q⟩;exact q.elim
 ·intro v h' j b n f;have d1:Disj h'.get k:=f.of_add_left;have d2:Disj j k:=Q2 b f;have m:(h'.add j).add k=(h'.add k).add j:=by unfold LH.add;simp only;rw[Q7 d2]
  rw[m];exact s v (h'.add k) j (Disj.add b d2.symm) ⟨h',d1,rfl,n⟩
end
end
section
variable {P:Program} {E:Halt->Cells->Prop} {h:Cells}
variable {X:XP} {Q:Leaf->LH->Prop}
variable {K:Value->T}{t:TypeId}
theorem str_list(a b:ByteArray):(a.toList==b.toList)=true↔a=b:=by
 rw[beq_iff_eq,ByteArray.toList_eq,ByteArray.toList_eq];obtain⟨x⟩:=a;obtain⟨y⟩:=b;constructor
 ·intro e;have:x=y:=by apply Array.ext';simpa using e
  rw[this]
 ·intro e;cases e;rfl
theorem t_eqStr{h:LH}{x y:Operand}{a b:ByteArray}(hu:P.underlying t=some .string)(d:∀ c:Bool,(c=true↔a=b)->(K (.bool c)).wp X P Q h) :
  (T.sem false (Sem.bind (eqGuard .eql t x y (.string a) (.string b)) fun _=>binOp .eql t (.string a) (.string b)) K).wp X P Q h:=by
 refine Q9 (A:=fun w h'=>h'=h.get/\(K w).wp X P Q h) (Qu _ _ ?_) (by rintro w h' ⟨rfl,hw⟩;exact hw);unfold eqGuard;simp only[Bool.not_true,Bool.false_eq_true,if_false,Qg];unfold binOp;show Qd P (Op.stringOp .eql a b) _ _ _;unfold Op.stringOp;rw[Qg];exact⟨rfl,d _ (str_list a b)⟩
theorem t_lenStr{h:LH}{b:TypeId}{s:ByteArray}(hu:P.underlying t=some .string)(a:(K (.int .i64 (s.size:Int))).wp X P Q h):(T.sem false (Builtin.len_ #[t] b #[.string s]) K).wp X P Q h:=by
 refine Q9 (A:=fun w h'=>h'=h.get/\(K w).wp X P Q h) ?_ (by rintro w h' ⟨rfl,hw⟩;exact hw);unfold Builtin.len_;change Qd P (underlying t >>= _) _ _ _;rw[lwp_bind,Qc hu];exact⟨rfl,a⟩
end
section
variable {P:Program} {E:Halt->Cells->Prop} {h:Cells}
def ByteE(h:Cells)(a:Addr)(c:UInt8):Prop:=h.cell? (a.add 0)=some (.int .u8 (c.toNat:Int))
variable {el:TypeId}{s:ByteArray}{K:Value->T}
theorem freeze_upd{h:Cells}{r:Nat}{cs:Array Value}{k:Nat}:(h.upd r (true,.cells cs el (0,0))).freeze { block:=r,off:=k } 1=h.upd r (true,.cells cs el (k,k+1)):=by
 funext a;unfold Cells.freeze Cells.upd;by_cases e:a=r
 ·subst e;simp[frzO]
 ·simp[e]
theorem lwp_bytes{Q:Value->Cells->Prop}(d:∀ r cap,h r=none->s.size<=cap->∀ cs:Array Value,(∀ (i:Nat) c,s.data[i]?=some c->cs[i]?=some (.int .u8 (c.toNat:Int)))->Q (.slice (some ⟨r,0,none⟩) s.size cap) (h.upd r (true,.cells cs el (cs.size,cs.size+1)))):Qd P (Conv.stringToBytes el s) Q E h:=by
 unfold Conv.stringToBytes;rw[lwp_bind];show (if _ then _ else _);split
 ·rename_i a;simp[Question.forced]at a
 ·intro t;simp only[lwp_bind];refine Zf fun r hr=>?_;unfold markStringish;rw[lwp_bind];refine⟨⟨_,Qm _ _ _⟩,?_⟩;have e:∀ (cs:Array Value),(h.upd r (true,.cells cs el (0,0))).shape? r=some (el,cs.size):=by
   intro cs;unfold Cells.shape?;rw[Qm]
  simp only[e];refine⟨by decide,⟨_,Qm _ _ _,fun _=>id⟩,?_⟩;rw[freeze_upd];refine d r _ hr (Nat.le_add_right _ _) _ fun i c hc=>?_;have b:i<s.data.size:=(Array.getElem?_eq_some_iff.1 hc).1;rw[Array.getElem?_append_left (by simpa using b),Array.getElem?_map,hc];rfl
variable {X:XP} {Q:Leaf->LH->Prop}
theorem t_bytes{h:LH}{src dst:TypeId}(e:P.underlying src=some .string)(f:P.underlying dst=some (.slice el))(g:P.underlying el=some (.int .u8))(l:s.size<4611686018427387904)
 (j:∀ r cap h',h.le h'->Sl ByteE 1 h'.get (some ⟨r,0,none⟩) s.size s.data.toList->(K (.slice (some ⟨r,0,none⟩) s.size cap)).wp X P Q h'):(T.sem false (convert src dst (.string s)) K).wp X P Q h:=by
 refine Q9 (A:=fun w h'=>∃ r cap,w=.slice (some ⟨r,0,none⟩) s.size cap/\h.get.le h'/\Sl ByteE 1 h' (some ⟨r,0,none⟩) s.size s.data.toList) ?_ (by rintro w h' ⟨r,cap,rfl,k,b⟩;exact j r cap _ ⟨k,rfl,rfl,rfl⟩ b);unfold convert;simp only[lwp_bind,Qc e,Qc f,Qc g];refine lwp_bytes fun r cap hr d cs a=>⟨r,cap,rfl,Kd _ hr,?_⟩;refine⟨by rw[Array.length_toList];rfl,by rw[Array.length_toList];exact l,fun i c hc=>⟨_,rfl,?_⟩⟩;unfold ByteE;rw[Qo,Qo];simp only[Nat.zero_add,Nat.mul_one,Nat.add_zero];unfold Cells.cell?;rw[Qm];exact a i c (by simpa using hc)
theorem t_indexS{h:LH}{t:TypeId}{i:Nat}{c:UInt8}(hu:P.underlying t=some .string)(hc:s.data[i]?=some c)(d:(K (.int .u8 (c.toNat:Int))).wp X P Q h):(T.sem false (Instr.index t (.string s) (.int .i64 (i:Int))) K).wp X P Q h:=by
 refine Q9 (A:=fun w h'=>h'=h.get/\w=.int .u8 (c.toNat:Int)) ?_ (by rintro w h' ⟨rfl,rfl⟩;exact d);unfold Instr.index;simp only[asIntOf,lwp_bind,Qg,Qc hu];have a:i<s.size:=(Array.getElem?_eq_some_iff.1 hc).1;have b:s[(i:Int).toNat]?=some c:=by
  rw[Int.toNat_natCast,getElem?_pos s i a];have:=Array.getElem?_eq_getElem (xs:=s.data) (i:=i) a;rw[this]at hc;exact hc
 rw[if_pos (by omega),b];exact⟨rfl,rfl⟩
end
section
variable {X:XP} {P:Program}
theorem We{f : FuncId}{fd : Func}{e : Array Value -> Sem Value}{args : Array Value}{h : LH}{Q : Value -> LH -> Prop}(hf : P.funcs[f]? = some fd)(hn : (fd.name == "runtime.NumGoroutine") = false)(hb : fd.body = none)(h1 : (Extern.findNext fd).isNone = true)(h2 : Extern.find fd = some e)
 (hw:Qd P (e args) (fun v h'=>Q v { h with get:=h' }) (fun _ _=>False) h.get):CV X P (.func (.func f) #[] #[]) args h Q:=by
 intro main R hR fr cs hk;have h1':Extern.findNext fd=none:=by cases e:Extern.findNext fd with|none=>rfl|some x=>rw[e]at h1;cases h1
 simp only[Deferred.ofValue,lwp_bind,Qg,invoke,callFunc,Jm,Array.append_empty,Array.empty_append];rw[hf];simp only;rw[if_neg (by rw[hn];simp),if_pos (by rw[hb];rfl)];rw[h1',h2];refine⟨.inr ⟨f,rfl⟩,?_⟩;show Qd P (do let v <- e args;pure (Next.value v)) _ _ _;rw[lwp_bind];refine Q4 _ hw (fun v h' hq=>?_) fun _ _ hf=>hf;rw[Qg];have:=hk v { h with get:=h' } (fun _=>none) (fun _=>.inr rfl) hq;rw[Hc]at this;exact this
end
end Go.TM
