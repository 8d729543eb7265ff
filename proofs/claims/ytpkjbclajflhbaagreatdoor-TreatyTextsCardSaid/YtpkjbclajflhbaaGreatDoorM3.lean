/- Contracts and laws for the proof, joined by a program. No condition. -/
import Derived.Test.YtpkjbclajflhbaaGreatDoorM2
set_option linter.all false
noncomputable section
open Go Go.Conc Go.TM Go.Proofs
open Go.IntKind (wrap)
namespace Go.TM
section
open Go.ChangeShapes Go.RowKit
theorem trodAll_below{H:Type}{enc:TypeId×Value->H}{P:Program}(f:laidOutB P=true){W e:World}(hb:Below W.heap.size W e):∀ {ts:List TypeId} {vs:List Value} {ds:List (DataW H)} {ps:List MemPlace},
  (∀ t∈ts,P.readableRec t=true/\t<P.types.size)->DataW.TrodAll enc P W 0 (fun _=>true) true ts vs ds ps->(∀ x∈ps,x.block<W.heap.size) ->
  DataW.TrodAll enc P e 0 (fun b=>decide (b<W.heap.size)) true ts vs ds ps
 | [],[],[],_,_,h,_=>h
 | t::ts,v::vs,d::ds,_,hr,h,a=>by
  obtain⟨p,q,h1,h2,rfl⟩:=h;exact⟨p,q,Below.trod f (hr t (by simp)).1 (hr t (by simp)).2 h1 hb (fun x c=>a x (by simp[c])),trodAll_below f hb (fun i g=>hr i (by simp[g])) h2 (fun x c=>a x (by simp[c])),rfl⟩
 | [],[],_::_,_,_,h,_=>h.elim
 | [],_::_,_,_,_,h,_=>by cases h
 | _::_,[],_,_,_,h,_=>by cases h
 | _::_,_::_,[],_,_,h,_=>h.elim
section
variable {H:Type} {enc:TypeId×Value->H}
theorem row_leaving{C:Checked}{os:Os}{f:FuncId}{fn:Func}{s:ChangeSpec}{l:List (String×DataW Unit)}{tb:TypeId}
 (own:ownKnob C.prog.godebug=none)(started:os.Started)(B:C.prog.funcs[f]?=some fn)(D:C.prog.inits.idxOf? f=none)(hv:s.vars=[])(lo:laidOutB C.prog=true)
 (hr:∀ t∈fn.params.toList,C.prog.readableRec t=true/\t<C.prog.types.size)(y:fn.resultTypes=#[tb])(hb:C.prog.underlying tb=some .bool)
 (Q:∀ ds:List (DataW H),ds.length=fn.params.size->s.fn H ds={ results:=[.lit (.bool true)],args:=ds })
 (witness:∃ (w:World) (tape:Tape) (i:Input),w.os=os/\(w.forCall tape i).Shaped C.prog/\i.vars=[]/\Input.okWide C.prog (w.forCall tape i) .any w.heap.size f i /\
   ((s.pre enc C.prog fn [] false (w.forCall tape i).memory i.args/\laidMetH C.prog l (w.forCall tape i).memory)/\sizedMet enc C.prog fn (OpenSpec.ofChange s) false (w.forCall tape i).memory i.args)/\({}:Assume).holds C.prog (lone (Frame.enter C.prog f i.args .normal) [] (w.forCall tape i)))
 (runs:∀ (W:World) (base:Nat) (args:Array Value) (ds:List (DataW H)) (ps:List MemPlace),(∀ (j:Nat) t v,fn.params[j]?=some t->args[j]?=some v->Value.okWide C.prog W .any base t v) ->
   DataW.TrodAll enc C.prog W 0 (fun _=>true) true fn.params.toList args.toList ds ps->(∀ (j:Nat) t d,fn.params.toList[j]?=some t->ds[j]?=some d->Light C.prog t d)->laidMetH C.prog l W->FWK XT C.prog .normal f args ⟨getW W,[],[],[]⟩ fun r h'=>r=.bool true/\h'.pend=[]) :
  ReturnsInLeavingWide {} C os f .any (fun w args=>(s.pre enc C.prog fn [] false w args/\laidMetH C.prog l w)/\sizedMet enc C.prog fn (OpenSpec.ofChange s) false w args) (s.post enc C.prog fn false true false false):=by
 refine returnsInLeavingWide_of_good own started witness ?_;intro w tape i _ _ _ F u _;obtain⟨_,_,_,a,o,_,_,_,_,c⟩:=F;have e:a=fn:=Option.some.inj (o.symm.trans B);subst e;obtain⟨⟨⟨ds,gs,before,hw,_⟩,G⟩,R⟩:=u;have I:=R.weights hw;have k:=DataW.Whole.of_heap (w':=w.forCall tape i) (by rfl) hw;have z:laidMetH C.prog l (w.forCall tape i):=laidMetH.of_heap (by rfl) G;generalize w.forCall tape i=W at c k z ⊢;have m:=k;obtain⟨p,q,A,J,rfl,_,_⟩:=k;rw[hv]at J;obtain⟨rfl,rfl⟩:=trodVars_none J;have b:∀ (j:Nat) t d,a.params.toList[j]?=some t->ds[j]?=some d->Light C.prog t d:=by
  intro j t d L M n N;have hm:=DataW.weights_mem_each (P:=C.prog) (ts:=a.params.toList++s.plain.varTypes C.prog) (ds:=ds++[]) (j:=j) (by rw[List.getElem?_append_left (List.getElem?_eq_some_iff.1 L).1];exact L) (by rw[List.append_nil];exact M) n N;have:=List.all_eq_true.1 I n hm;simpa using this
 have E:∀ x∈p,x.block<W.heap.size:=fun x G=>by simpa using m.lt x (by simpa using G)
 have hlen:ds.length=a.params.size:=by
  have:∀ {ts:List TypeId} {vs:List Value} {ds:List (DataW H)} {ps:List MemPlace},DataW.TrodAll enc C.prog W 0 (fun _=>true) true ts vs ds ps->ds.length=ts.length:=by
   intro ts
   induction ts with
   | nil=>intro vs ds ps h;cases vs<;>cases ds<;>first|rfl|exact h.elim
   | cons t ts S =>
    intro vs ds ps h;cases vs with
    | nil=>exact h.elim
    | cons v vs =>
     cases ds with
     | nil=>exact h.elim
     | cons d ds=>obtain⟨_,_,_,h2,_⟩:=h;simp[S h2]
  simpa using this A
 have g:s.fn H (ds++[])={ results:=[.lit (.bool true)],args:=ds }:=by rw[List.append_nil];exact Q ds hlen
 exact run_well (Φ:=fun v w'=>s.post enc C.prog a false true false false W.blind i.args v w'.blind) (getW_fits W) (getW_no W) (getW_whole W) D (runs W _ i.args ds p c A b z) (by
  rintro v h' ⟨rfl,O⟩;refine⟨O,fun w' _ K=>ChangeSpec.post_blind ⟨ds,[],_,[],p,[],m,?_,?_,?_,K.below.frame _,fun h=>by cases h⟩⟩
  ·rw[g,y];exact trodAll_mk1 (shut_bool hb true)
  ·rw[g];exact trodAll_below lo K.below hr A E
  ·rw[g,hv];rfl)
end
theorem card_goes{p:Pinned}{s:OpenSpec}{c:OpenClaim}(kinds:List LaidKind)(b:Bool)(a:Bool×String)(e:Bool)
 (hc:c.holds p s)(hw:c.wfByText s=true)(d:c.laidByTextAt .later p kinds b)
 (i:c.start=.entering)(g:c.noBlocks=false/\c.again=false)(hm:p.checked.prog.mainIs=some (a.1,a.2.toList))(o:(!a.1&&a.2.isEmpty&&!e)=false)
 (n:∀ f fn,p.checked.prog.funcNamed c.func=some f->p.checked.prog.funcs[f]?=some fn->e=p.checked.prog.looks []/\∀ (j:Nat) t,fn.params[j]?=some t->p.checked.prog.wantsStandIn t=false)
 (m:true=c.goesBy p.checked.prog) :
  Claim7.holds p (.plain s) { stood:={ row:=c,standIns:=[],harness:=a,looks:=e },kinds:=[],alts:=[],goes:=true,laidByText:=true,laidKinds:=kinds,laidTests:=b,laidLooks:=.later }:=by
 have k:∀ r:OpenClaim,Claim7.isSixth { stood:={ row:=r,standIns:=[],harness:=a,looks:=e },kinds:=[] }=false:=fun r=>by simpa[Claim7.isSixth] using o
 refine⟨?_,(fun D l=>by cases l),d,(fun h=>by cases h),m⟩;exact Claim7.tied_new_at .later kinds b (Claim7.new_of_sixth hc a e i g hm (k c) n) hw
end
section
section
variable {H:Type} {enc:TypeId×Value->H} {P:Program} {W:World} {base:Nat} {sp:Nat->Bool} {held:Bool} {fuel:Nat} {t:TypeId} {cs:List Value} {x:DataW H×List MemPlace}
theorem sl_of_trodR{α:Type}{E:Cells->Addr->α->Prop}{e:TypeId}{k:Nat}(r:P.underlying t=some (.slice e))(A:P.cellsOf e=k)(f:0<P.bytesOf e)(b:Light P t x.1)
 (u:∀ (n:Nat) (a:Addr) cs y,cs.length=k->(∀ (i:Nat) v,cs[i]?=some v->(getW W).cell? (a.add i)=some v)->DataW.trod enc P W base sp held n e cs=some y->Light P e y.1->∃ z,E (getW W) a z)
 (h:DataW.trod enc P W base sp held fuel t cs=some x):∃ p n c l,cs=[.slice p n c]/\n<=c/\Sl E k (getW W) p n l:=by
 rcases DataW.trod_slice r h with⟨rfl,_⟩|⟨a,len,cap,elems,rest,n,_,rfl,rfl,_,B,hm,hlen,m,_⟩
 ·exact⟨none,0,0,[],rfl,Nat.le_refl _,Sl.nil⟩
 ·have d:len<4611686018427387904:=by
   have:=b ((elems.length+rest.length)*P.bytesOf e) (by simp[DataW.weights,r]);have h2:elems.length<=(elems.length+rest.length)*P.bytesOf e:=Nat.le_trans (Nat.le_add_right _ _) (Nat.le_mul_of_pos_right _ f);simp only[reachBytes]at this;omega
  have key:∀ i:Fin len,∃ z,E (getW W) (a.add (i.1*k)) z:=by
   rintro⟨i,o⟩;have h1:=m i o;rw[List.getElem?_eq_getElem (by omega:i<elems.length)]at h1;obtain⟨s,hc,C⟩:=Option.bind_eq_some_iff.1 h1;obtain⟨c1,c2⟩:=cells_at hc;rw[A]at c1 c2;refine u _ _ _ _ c1 c2 C fun k q=>b k ?_;simp only[DataW.weights,r,List.mem_cons,List.mem_append];exact .inr (.inl (weightsAll_mem (List.mem_map.2 ⟨_,List.getElem_mem _,rfl⟩) k q))
  have j:=Classical.axiomOfChoice key;obtain⟨g,w⟩:=j;refine⟨some a,len,cap,List.ofFn g,rfl,B,by simp,?_,fun i z b=>⟨a,rfl,?_⟩⟩
  ·simpa using d
  ·rw[List.getElem?_ofFn]at b;split at b
   ·rename_i o;cases b;exact w ⟨i,o⟩
   ·cases b
variable {tI tIs tSpan tSpans tPaper tPapers tReq tReqs tFile:TypeId}
end
end
section
variable {P:Program} {E:Halt->Cells->Prop} {h:Cells}
variable {el t ty sT xT xe:TypeId}{cells cs:Array Value}{Q:Value->Cells->Prop}{n c m mc s by_ r:Nat}{z:Value}{k:Value->T}{vs ws:List Value}{p:Option Addr}{b:Addr}{X:XP}
theorem Kf{Q:Addr->Cells->Prop}(a:∀ r,h r=none->Q ⟨r,0,none⟩ (h.upd r (true,.cells cells el (0,0)))):Qe P (newRow el cells) Q E h:=fun r hr=>a r hr
theorem lwp_buildSlice{parts:Array (Nat×Value)}{inf:TypeInfo}(hu:P.underlying t=some (.slice el))(b:P.info? el=some inf)(f:inf.zero=some z)(d:n*inf.size<=2^24)(a:n*inf.size≠0)
 (c:Instr.fill (fun i=>some (i*inf.size,inf.size)) ((Array.range (n*inf.size)).map (z.cells[·%z.cells.size]!)) parts.toList=some cells)(e:∀ r,h r=none->Q (.slice (some ⟨r,0,none⟩) n n) (h.upd r (true,.cells cells el (0,0)))):Qe P (Instr.buildSlice t n parts) Q E h:=by
 unfold Instr.buildSlice;rw[lwp_bind,Qd hu];simp only[];simp only[lwp_bind,Q2 b,if_neg (Nat.not_lt.2 d),Qg,if_neg a,Ze b f,c];exact Kf e
def OwnRow(el:TypeId)(k:Nat)(h:Cells)(p:Option Addr)(n c:Nat)(vs:List Value):Prop :=
 vs.length=n*k/\((p=none/\n=0/\c=0)\/∃ (r:Nat) (cs:Array Value),p=some ⟨r,0,none⟩/\h r=some (true,.cells cs el (0,0))/\cs.size=c*k/\n<=c/\∀ (j:Nat) (v:Value),vs[j]?=some v->cs[j]?=some v)
theorem OwnRow.nil{k:Nat}:OwnRow el k h none 0 0 []:=⟨by simp,.inl ⟨rfl,rfl,rfl⟩⟩
def KeptBut(p:Option Addr)(h h':Cells):Prop:=∀ r x,h r=some x->(∀ a,p=some a->a.block≠r)->h' r=some x
theorem growBy_le(N:Nat):∀ (rounds c:Nat),c<=2*N+400->Builtin.growBy N rounds c<=2*N+400:=by
 intro rounds
 induction rounds with
 | zero=>intro c hc;exact hc
 | succ k a =>
  intro c hc;unfold Builtin.growBy;split
  ·exact hc
  ·exact a _ (by omega)
theorem nextslicecap_le{N:Nat}(hc:c<N):Builtin.nextslicecap N c<=2*N+400:=by
 unfold Builtin.nextslicecap;split
 ·omega
 ·split
  ·omega
  ·exact growBy_le N 4 c (by omega)
theorem setMany_get{o:Nat}(a:o+vs.length<=cs.size)(i:Nat):(setMany cs o vs)[i]?=if o<=i/\i<o+vs.length then vs[i-o]? else cs[i]?:=get_setMany vs cs o a i
theorem Wv{Q:Array Value->Cells->Prop}{l:List Value}{a:Addr}(b:l.length=n)(hc:∀ (t:Nat) v,l[t]?=some v->h.cell? (a.add t)=some v)(c:Q l.toArray h):Qe P (loadCells a n) Q E h:=by
 unfold loadCells;subst b;refine lwp_loadCells l a 0 #[] h (fun t v d=>by rw[Nat.zero_add];exact hc t v d) ?_;rw[Array.empty_append];exact c
theorem lwp_append{ts:Array TypeId}{inf:TypeInfo}(h0:ts[0]?=some sT)(h1:ts[1]?=some xT)(hu:P.underlying sT=some (.slice el))(X:P.underlying xT=some (.slice xe))
 (G:P.info? el=some inf)(Y:inf.zero=some z)(L:z.cells.size=inf.size)(hb:inf.bytes<=1024)(W:n+m<=2^30)(own:OwnRow el inf.size h p n c vs)(y:ws.length=m*inf.size)(hc:∀ (j:Nat) v,ws[j]?=some v->h.cell? (b.add j)=some v)(one:∀ v∈ws,isOne v=true)(hm:0<m)
 (O:∀ C c' h',OwnRow el inf.size h' C (n+m) c' (vs++ws)->KeptBut p h h'->(C=p\/∃ r,C=some ⟨r,0,none⟩/\h r=none)->Q (.slice C (n+m) c') h'):Qe P (Builtin.append_ ts ty #[.slice p n c,.slice (some b) m mc]) Q E h:=by
 unfold Builtin.append_;rw[h0,h1];simp only[List.getElem?_toArray,List.getElem?_cons_zero,List.getElem?_cons_succ];simp only[lwp_bind,Qd hu,Q2 G,Qd X,Qg,Bool.false_eq_true,if_false,Bool.not_false,if_true,Builtin.lenOf];obtain⟨f,q⟩:=own;by_cases d:n+m<=c
 ·simp only[if_pos d,lwp_bind,Builtin.firstCells];refine Wv (l:=ws) y hc ?_;rcases q with⟨rfl,rfl,rfl⟩|⟨r,cs,rfl,hr,u,I,hv⟩
  ·omega
  ·simp only[];have hle:n*inf.size+ws.length<=cs.size:=by rw[y,u,<- Nat.add_mul];exact Nat.mul_le_mul_right _ d
   have D:Addr.add ⟨r,0,none⟩ (n*inf.size)=⟨r,n*inf.size,none⟩:=by unfold Addr.add;split<;>simp_all
   rw[D];rw[lwp_bind];refine W4 ws 0 h r (n*inf.size) cs el hr (by omega) one ?_;rw[Qg];refine O _ _ _ ⟨by simp[f,y,Nat.add_mul],.inr ⟨r,_,rfl,Qn _ _ _,?_,d,?_⟩⟩ ?_ (.inl rfl)
   ·rw[size_setMany];exact u
   ·intro j v i;rw[setMany_get (by omega)];by_cases H:j<vs.length
    ·rw[if_neg (by omega)];rw[List.getElem?_append_left H]at i;exact hv j v i
    ·rw[List.getElem?_append_right (by omega)]at i;have V:j-vs.length<ws.length:=(List.getElem?_eq_some_iff.1 i).1;rw[if_pos (by omega),<- i];congr 1;omega
   ·intro N x g J;have:N≠r:=fun e=>J _ rfl e.symm;rw[Qp _ _ this];exact g
 ·have B:¬ ((((n+m:Nat):Int)>IntKind.i64.max)/\((false:Bool)=true\/inf.bytes=0)):=by
   rintro⟨h1,_⟩;have e:IntKind.i64.max=9223372036854775807:=rfl;rw[e]at h1;omega
  have A:=nextslicecap_le (Nat.lt_of_not_le d);have k:¬ (Builtin.nextslicecap (n+m) c*inf.bytes>2^48):=by
   have:=Nat.mul_le_mul A hb;have h2:(2*(n+m)+400)*1024<=(2*2^30+400)*1024:=Nat.mul_le_mul_right _ (by omega);have:(2*2^30+400)*1024<=2^48:=by decide
   omega
  have w:¬ ((((n+m:Nat):Int)>IntKind.i64.max)/\(False\/inf.bytes=0)):=fun h=>B ⟨h.1,h.2.imp_left False.elim⟩;simp only[if_neg d,lwp_bind,Z1 G,if_neg w,if_neg k,Qg];have F:∀ {K:Nat->Cells->Prop},(∀ a,n+m<=a->K a h)->Qe P (choose (Question.appendCap (n+m) c el)) K E h:=by
   intro K s;show (if _ then _ else _);split
   ·rename_i U;simp[Question.forced]at U
   ·intro t;exact s _ (Nat.le_add_right _ _)
  refine F fun a D=>?_;have o:∀ {K:Unit->Cells->Prop},K () h->Qe P (askRoom (a*inf.bytes)) K E h:=by
   intro K s;unfold askRoom;split
   ·exact⟨.inl rfl,s⟩
   ·exact s
  refine o ?_;have hold:∀ {K:Array Value->Cells->Prop},(∀ old:Array Value,old.toList=vs->K old h)->Qe P (Builtin.firstCells inf.size n (Value.slice p n c)) K E h:=by
   intro K s;rcases q with⟨rfl,rfl,rfl⟩|⟨r,cs,rfl,hr,u,I,hv⟩
   ·have:vs=[]:=List.eq_nil_of_length_eq_zero (by rw[f];simp);simp only[Builtin.firstCells,Qg];exact s #[] (by rw[this])
   ·simp only[Builtin.firstCells];refine Wv (l:=vs) f (fun j v i=>?_) (s _ rfl);have e:Addr.add ⟨r,0,none⟩ j=⟨r,j,none⟩:=by unfold Addr.add;split<;>simp_all
    rw[e];simp only[Cells.cell?,hr,Option.isSome_none,Bool.false_eq_true,if_false];exact hv j v i
  refine hold fun old hold=>?_;simp only[Builtin.firstCells];refine Wv (l:=ws) y hc ?_;simp only[Ze G Y];refine Kf fun r hr=>?_;have M:(Builtin.zeroCells z.cells (a-(n+m))).size=(a-(n+m))*inf.size:=by simp[Builtin.zeroCells,L]
  refine O _ _ _ ⟨by simp[f,y,Nat.add_mul],.inr ⟨r,_,rfl,Qn _ _ _,?_,D,?_⟩⟩ ?_ (.inr ⟨r,rfl,hr⟩)
  ·have R:old.size=n*inf.size:=by rw[<- Array.length_toList,hold,f]
   have S:(ws.toArray).size=m*inf.size:=by simp[y]
   simp only[Array.size_append,R,S,M];rw[<- Nat.add_mul,<- Nat.add_mul];congr 1;omega
  ·intro j v i;have hlen:j<(vs++ws).length:=(List.getElem?_eq_some_iff.1 i).1;rw[<- Array.getElem?_toList,Array.toList_append,Array.toList_append,hold,List.getElem?_append_left (by simpa using hlen)];exact i
  ·intro N x g _;have:N≠r:=by rintro rfl;rw[hr]at g;cases g
   rw[Qp _ _ this];exact g
theorem Z3{b:Nat}{z:Option Value}(h:(P.info? t).map (fun i=>(i.size,i.bytes,i.zero))=some (s,b,z)):∃ i,P.info? t=some i/\i.size=s/\i.bytes=b/\i.zero=z:=by
 cases a:P.info? t with
 | none=>rw[a]at h;cases h
 | some i=>rw[a]at h;simp only[Option.map_some,Option.some.injEq,Prod.mk.injEq]at h;exact⟨i,rfl,h.1,h.2.1,h.2.2⟩
theorem lwp_buildS{b:Nat}{parts:Array (Nat×Value)}(hu:P.underlying t=some (.slice el))(e:(P.info? el).map (fun i=>(i.size,i.bytes,i.zero))=some (s,b,some z))(f:n*s<=2^24)(a:n*s≠0)
 (d:Instr.fill (fun i=>some (i*s,s)) ((Array.range (n*s)).map (z.cells[·%z.cells.size]!)) parts.toList=some cells)(g:∀ r,h r=none->Q (.slice (some ⟨r,0,none⟩) n n) (h.upd r (true,.cells cells el (0,0)))):Qe P (Instr.buildSlice t n parts) Q E h:=by
 obtain⟨i,h1,h2,_,c⟩:=Z3 e;subst h2;exact lwp_buildSlice hu h1 c f a d g
theorem lwp_appendS{ts:Array TypeId}(h0:ts[0]?=some sT)(h1:ts[1]?=some xT)(hu:P.underlying sT=some (.slice el))(t:P.underlying xT=some (.slice xe))
 (l:(P.info? el).map (fun i=>(i.size,i.bytes,i.zero))=some (s,by_,some z))(e:z.cells.size=s)(hb:by_<=1024)(d:n+m<=2^30)(own:OwnRow el s h p n c vs)(o:ws.length=m*s)(hc:∀ (j:Nat) v,ws[j]?=some v->h.cell? (b.add j)=some v)(one:∀ v∈ws,isOne v=true)(hm:0<m)
 (q:∀ a c' h',OwnRow el s h' a (n+m) c' (vs++ws)->KeptBut p h h'->(a=p\/∃ r,a=some ⟨r,0,none⟩/\h r=none)->Q (.slice a (n+m) c') h'):Qe P (Builtin.append_ ts ty #[.slice p n c,.slice (some b) m mc]) Q E h:=by
 obtain⟨i,f,g,k,g4⟩:=Z3 l;subst g;subst k;exact lwp_append h0 h1 hu t f g4 e hb d own o hc one hm q
theorem Q1{h:LH}{x:Bool×Obj}(hr:h.get r=none):h.le { h with get:=h.get.upd r x }:=⟨Zc x hr,rfl,rfl,rfl⟩
theorem Q6{i:Nat}{m:Bool}{f:Nat×Nat}{v:Value}(hv:cs[i]?=some v):(h.upd r (m,.cells cs el f)).cell? ⟨r,i,none⟩=some v:=by
 simp[Cells.cell?,Qn,hv]
theorem Qa(r o i:Nat):Addr.add ⟨r,o,none⟩ i=⟨r,o+i,none⟩:=by unfold Addr.add;split<;>simp_all
theorem Dc{Q:Leaf->LH->Prop}{h:LH}{b:Nat}{parts:Array (Nat×Value)}(hu:P.underlying t=some (.slice el))(d:(P.info? el).map (fun i=>(i.size,i.bytes,i.zero))=some (s,b,some z))(f:n*s<=2^24)(a:n*s≠0)
 (c:Instr.fill (fun i=>some (i*s,s)) ((Array.range (n*s)).map (z.cells[·%z.cells.size]!)) parts.toList=some cells)
 (e:∀ r,h.get r=none->(k (.slice (some ⟨r,0,none⟩) n n)).wp X P Q { h with get:=h.get.upd r (true,.cells cells el (0,0)) }):(T.sem false (Instr.buildSlice t n parts) k).wp X P Q h :=
 Jh (A:=fun v h'=>∃ r,h.get r=none/\v=.slice (some ⟨r,0,none⟩) n n/\h'=h.get.upd r (true,.cells cells el (0,0))) (lwp_buildS hu d f a c fun r hr=>⟨r,hr,rfl,rfl⟩) (by rintro v h' ⟨r,hr,rfl,rfl⟩;exact e r hr)
theorem t_append{Q:Leaf->LH->Prop}{h:LH}{ts:Array TypeId}(h0:ts[0]?=some sT)(h1:ts[1]?=some xT)(hu:P.underlying sT=some (.slice el))(q:P.underlying xT=some (.slice xe))
 (g:(P.info? el).map (fun i=>(i.size,i.bytes,i.zero))=some (s,by_,some z))(f:z.cells.size=s)(hb:by_<=1024)(e:n+m<=2^30)(own:OwnRow el s h.get p n c vs)(o:ws.length=m*s)(hc:∀ (j:Nat) v,ws[j]?=some v->h.get.cell? (b.add j)=some v)(one:∀ v∈ws,isOne v=true)(hm:0<m)
 (l:∀ d c' h',OwnRow el s h' d (n+m) c' (vs++ws)->KeptBut p h.get h'->(d=p\/∃ r,d=some ⟨r,0,none⟩/\h.get r=none)->(k (.slice d (n+m) c')).wp X P Q { h with get:=h' }):(T.sem false (Builtin.append_ ts ty #[.slice p n c,.slice (some b) m mc]) k).wp X P Q h :=
 Jh (A:=fun v h'=>∃ d c',v=.slice d (n+m) c'/\OwnRow el s h' d (n+m) c' (vs++ws)/\KeptBut p h.get h'/\(d=p\/∃ r,d=some ⟨r,0,none⟩/\h.get r=none)) (lwp_appendS h0 h1 hu q g f hb e own o hc one hm fun d c' h' a b c=>⟨d,c',rfl,a,b,c⟩)
  (by rintro v h' ⟨d,c',rfl,a,b,c⟩;exact l d c' h' a b c)
end
end Go.TM
section
namespace Go.Y
set_option maxHeartbeats 0
set_option linter.unusedVariables false
set_option maxRecDepth 100000
variable {X:XP} {h:LH} {A:Value->LH->Prop}
def n35(g:Option Addr)(e l:Nat)(i:Option Addr)(f m:Nat):T:=bif (↑e:Int) != (↑f:Int) then .rt (.bool false) else .loop [false,.int .i64 0] (fun a=>.popB a fun c a=>.pi a fun b a=>.unNil a (bif decide (b<(↑e:Int)) then .need (0<=b/\b<(↑e:Int)) (.someA g fun d=>.li (d.add (b.toNat*1)) fun j=>.need (0<=b/\b<(↑f:Int)) (.someA i fun d=>.li (d.add (b.toNat*1)) fun k=>bif j != k then .rn [false,b] else .ag [c,.int .i64 (wrap .i64 (b+1))])) else .bk [c,b])) (fun a=>.popB a fun c a=>.pi a fun b a=>.unNil a (.rt (.bool true))) (fun a=>.popB a fun c a=>.pi a fun b a=>.unNil a (.rt (.bool c))) fun n o=>.fail
theorem w35(ap:Option Addr)(an ac:Nat)(bp:Option Addr)(bn bc:Nat):FX X 30 #[.slice ap an ac,.slice bp bn bc] h A (n35 ap an ac bp bn bc):=fk [] [⟨0,[(4,.bool),(5,.int .i64)],[],[],[],[]⟩] [] Tryz.f30
def n49(a b c:Int):T:=bif decide (b<=a) then .rt (.bool (decide (a<=c))) else .rt (.bool false)
theorem w49(n first last:Int):FX X 87 #[n,first,last] h A (n49 n first last):=fk [] [] [] Tryz.f87
variable {a b c d e f g i j k l m:Int}{n o p q r s t u v w x y z:Nat}{B C D E F G H I J K L M:Option Addr}
theorem w97:FX X 142 #[.slice B n o,.slice C p q] h A (.loop [.int .i64 0,.int .i64 0] (fun a=>.pi a fun c a=>.pi a fun b a=>.unNil a (bif decide (b<(↑n:Int)) then .need (0<=b/\b<(↑n:Int)) (.someA B fun d=>.li (d.add (b.toNat*1)) fun f=>bif decide (b>=(↑p:Int)) then .rn [.int .i64 1,b] else .need (0<=b/\b<(↑p:Int)) (.someA C fun d=>.li (d.add (b.toNat*1)) fun g=>.cI 171 #[f,g] fun e=>bif e != 0 then .rn [e,b] else .ag [c,.int .i64 (wrap .i64 (b+1))])) else .bk [c,b])) (fun a=>.pi a fun c a=>.pi a fun c a=>.unNil a (bif decide ((↑n:Int)<(↑p:Int)) then .rt (.int .i64 (-1)) else .rt (.int .i64 0))) (fun a=>.pi a fun c a=>.pi a fun b a=>.unNil a (.rt (.int .i64 c))) fun i j=>.fail):=fk [] [⟨0,[(4,.int .i64),(11,.int .i64)],[],[],[],[]⟩] [] Tryz.f142
theorem w100:FX X 166 #[.slice B n o,a] h A (.cI 195 #[.slice B n o,a] fun b=>.rt (.bool (decide (b>=0)))):=fk [] [] [] Tryz.f166
theorem w105:FX X 171 #[a,b] h A (.cB 197 #[a] fun d=>.cB 197 #[b] fun c=>bif d then bif c then .rt (.int .i64 0) else .rt (.int .i64 (-1)) else bif c then .rt (.int .i64 1) else bif decide (a<b) then .rt (.int .i64 (-1)) else bif decide (a>b) then .rt (.int .i64 1) else .rt (.int .i64 0)):=fk [] [] [] Tryz.f171
theorem w106:FX X 195 #[.slice B n o,a] h A (.loop [.int .i64 0,.int .i64 0] (fun b=>.pi b fun d b=>.pi b fun c b=>.unNil b (bif decide (c<(↑n:Int)) then .need (0<=c/\c<(↑n:Int)) (.someA B fun e=>.li (e.add (c.toNat*1)) fun f=>bif a==f then .rn [c,c] else .ag [d,.int .i64 (wrap .i64 (c+1))]) else .bk [d,c])) (fun b=>.pi b fun d b=>.pi b fun d b=>.unNil b (.rt (.int .i64 (-1)))) (fun b=>.pi b fun d b=>.pi b fun c b=>.unNil b (.rt (.int .i64 d))) fun g i=>.fail):=fk [] [⟨0,[(4,.int .i64),(8,.int .i64)],[],[],[],[]⟩] [] Tryz.f195
theorem w109:FX X 197 #[a] h A (.rt (.bool (a != a))):=fk [] [] [] Tryz.f197
end Go.Y
end
namespace Go.TM
section
variable {P:Program} {E:Halt->Cells->Prop} {h:Cells}
def Gd(P:Program)(t:TypeId):Bool:=match P.underlying t with
 | some (.int .i64)=>true
 | _=>false
def twoInts(P:Program)(t:TypeId):Bool:=match P.underlying t with
 | some (.struct fs)=>(match fs.toList with
  | [a, b] => a.name != "_" && b.name != "_" && Gd P a.type && Gd P b.type && Nat.beq a.offset 0 && Nat.beq b.offset 1
  | _=>false)&&!P.stoodInHeld t
 | _=>false
variable {t kt:TypeId}{v k:Value}{d a b c:Int}{h₀:LH}{init:List Value}
theorem Ku(a:Gd P t=true):P.underlying t=some (.int .i64):=by
 unfold Gd at a;split at a
 ·assumption
 ·cases a
theorem isI64_agg(a:Gd P t=true):isAggT P t=false:=by
 unfold isAggT;rw[Ku a]
theorem Wc(ht : twoInts P t = true) : ∃ a b : Field, P.underlying t = some (.struct #[a, b]) /\ a.name ≠ "_" /\ b.name ≠ "_" /\ Gd P a.type = true /\ Gd P b.type = true /\ a.offset = 0 /\ b.offset = 1 /\ P.stoodInHeld t = false := by
 unfold twoInts at ht;split at ht
 ·rename_i fs hu;simp only[Bool.and_eq_true,Bool.not_eq_true']at ht;obtain⟨h1,h2⟩:=ht;split at h1
  ·rename_i a b hfs;simp only[Bool.and_eq_true,bne_iff_ne]at h1;obtain⟨⟨⟨⟨⟨h3,h4⟩,h5⟩,h6⟩,h7⟩,h8⟩:=h1;have:fs=#[a,b]:=by rw[<- hfs]
   exact⟨a,b,by rw[hu,this],h3,h4,h5,h6,Jc h7,Jc h8,h2⟩
  ·cases h1
 ·cases ht
theorem Ws{Q:Value->Cells->Prop}{cs:Array Value}{o:Nat}(a:Gd P t=true)(hv:cs[o]?=some v)(b:Q v h):Qe P (part t cs o) Q E h:=by
 unfold part;rw[lwp_bind,Z9 (Ku a) (isI64_agg a)];simp only[Bool.false_eq_true,if_false,hv];exact b
theorem lwp_equalI{Q:Bool->Cells->Prop}{d:Nat}(e:Gd P t=true)(c:Q (a==b) h):Qe P (Op.equalIn (d+1) t (.int .i64 a) (.int .i64 b)) Q E h:=by
 unfold Op.equalIn;rw[lwp_bind,Qd (Ku e)];exact c
theorem lwp_equal2{Q:Bool->Cells->Prop}(p:twoInts P t=true)(l:Q (decide (a=c/\b=d)) h):Qe P (Op.equal t (.agg #[a,b]) (.agg #[c,d])) Q E h:=by
 obtain⟨f,g,hu,q,r,i1,i2,m,n,o⟩:=Wc p;unfold Op.equal;have k:Op.maxDepth=9998+1+1:=rfl;rw[k,Op.equalIn];rw[lwp_bind,Qd hu];simp only[lwp_bind,Jv,o,Bool.false_eq_true,if_false,List.forIn_toArray,List.forIn_cons,List.forIn_nil,q,r,ne_eq,not_false_eq_true,if_true];refine Ws i1 (v:=.int .i64 a) (by rw[m];rfl) ?_;refine Ws i1 (v:=.int .i64 c) (by rw[m];rfl) ?_;refine lwp_equalI i1 ?_;by_cases e:a=c
 ·subst e;simp only[beq_self_eq_true,Bool.not_true,Bool.false_eq_true,if_false,Qg,lwp_bind];refine Ws i2 (v:=.int .i64 b) (by rw[n];rfl) ?_;refine Ws i2 (v:=.int .i64 d) (by rw[n];rfl) ?_;refine lwp_equalI i2 ?_;by_cases i:b=d
  ·subst i;simpa[Qg] using l
  ·have j:(b==d)=false:=by simpa using i
   simpa[Qg,i,j] using l
 ·have j:(a==c)=false:=by simpa using e
  simpa[Qg,e,j] using l
def IsKey(P:Program)(kt:TypeId)(v:Value):Prop:=(Gd P kt=true/\∃ n,v=.int .i64 n)\/(twoInts P kt=true/\∃ a b,v=.agg #[.int .i64 a,.int .i64 b])
theorem lwp_checkKey{Q:Unit->Cells->Prop}{e:Bool}(j:IsKey P kt v)(i:Q () h):Qe P (Instr.checkKey e 10000 kt v) Q E h:=by
 have one:∀ {Q:Unit->Cells->Prop} {d:Nat} {t:TypeId} {n:Int},Gd P t=true->Q () h->Qe P (Instr.checkKey e (d+1) t (.int .i64 n)) Q E h:=by
  intro Q d t n c i;unfold Instr.checkKey;rw[lwp_bind,Qd (Ku c)];exact i
 rcases j with⟨c,n,rfl⟩|⟨c,a,b,rfl⟩
 ·exact one (d:=9999) c i
 ·obtain⟨f,g,hu,k,l,i1,i2,m,o,p⟩:=Wc c;rw[show (10000:Nat)=9998+1+1 from rfl,Instr.checkKey];rw[lwp_bind,Qd hu];simp only[lwp_bind,List.forIn_toArray,List.forIn_cons,List.forIn_nil,k,l,ne_eq,not_false_eq_true,if_true,Qg];refine Ws i1 (v:=.int .i64 a) (by rw[m];rfl) ?_;refine one i1 ?_;refine Ws i2 (v:=.int .i64 b) (by rw[o];rfl) ?_;exact one i2 i
theorem findNow_int{t:TypeId}{n:Int}:∀ (es:List MapEntry) (i:Nat),(∀ e∈es,∃ m,e.key=.int .i64 m) ->
  (∃ j e,es[j]?=some e/\e.key=.int .i64 n/\Instr.findNow (.int .i64) (.int .i64 n) es i=some (some (i+j,e.val)))\/((∀ e∈es,e.key≠.int .i64 n)/\Instr.findNow (.int .i64) (.int .i64 n) es i=some none):=by
 intro es
 induction es with
 | nil=>intro i _;exact .inr ⟨fun e he=>by simp at he,rfl⟩
 | cons e es f =>
  intro i d;obtain⟨m,hm⟩:=d e (by simp);unfold Instr.findNow;rw[hm];simp only[Instr.sameNow,if_true];by_cases b:n=m
  ·subst b;left;refine⟨0,e,rfl,hm,?_⟩;simp
  ·have hb:(n==m)=false:=by simpa using b
   rw[hb];simp only[];rcases f (i+1) (fun c a=>d c (by simp[a])) with⟨j,c,h1,h2,h3⟩|⟨h1,h2⟩
   ·left;exact⟨j+1,c,by simpa using h1,h2,by rw[h3];congr 3;omega⟩
   ·right;refine⟨fun c a=>?_,h2⟩;rcases List.mem_cons.1 a with rfl|a
    ·rw[hm];intro hc;cases hc;exact b rfl
    ·exact h1 c a
theorem lwp_findAsking{Q:Option (Nat×Value)->Cells->Prop}(o:twoInts P kt=true):∀ (es:List MapEntry) (i:Nat),(∀ e∈es,∃ c d,e.key=.agg #[.int .i64 c,.int .i64 d]) ->
  (∀ j e,es[j]?=some e->e.key=.agg #[a,b]->Q (some (i+j,e.val)) h)->((∀ e∈es,e.key≠.agg #[a,b])->Q none h)->Qe P (Instr.findAsking kt (.agg #[a,b]) es i) Q E h:=by
 intro es
 induction es with
 | nil=>intro i _ _ h2;exact h2 fun e he=>by simp at he
 | cons e es p =>
  intro i l h1 h2;obtain⟨c,d,hm⟩:=l e (by simp);unfold Instr.findAsking;rw[lwp_bind,hm];refine lwp_equal2 o ?_;by_cases g:a=c/\b=d
  ·obtain⟨rfl,rfl⟩:=g;simp only[and_self,decide_true,if_true,Qg];have:=h1 0 e rfl hm;simpa using this
  ·simp only[g,decide_false,Bool.false_eq_true,if_false];refine p (i+1) (fun k f=>l k (by simp[f])) (fun j k f n=>?_) fun m=>h2 fun k f=>?_
   ·have:=h1 (j+1) k (by simpa using f) n;rw[show i+1+j=i+(j+1) by omega];exact this
   ·rcases List.mem_cons.1 f with rfl|f
    ·rw[hm];intro hc;simp only[Value.agg.injEq,Array.mk.injEq,List.cons.injEq,Value.int.injEq,and_true,true_and]at hc;exact g ⟨hc.1.symm,hc.2.symm⟩
    ·exact m k f
theorem lwp_findKey{Q:Option (Nat×Value)->Cells->Prop}{es:List MapEntry}(u:IsKey P kt k)(o:∀ e∈es,IsKey P kt e.key)(h1:∀ j e,es[j]?=some e->e.key=k->Q (some (j,e.val)) h)(h2:(∀ e∈es,e.key≠k)->Q none h):Qe P (Instr.findKey kt k es) Q E h:=by
 unfold Instr.findKey;rcases u with⟨p,n,rfl⟩|⟨p,a,b,rfl⟩
 ·rw[lwp_bind,Qd (Ku p)];have i:∀ e∈es,∃ m,e.key=.int .i64 m:=by
   intro e he;rcases o e he with⟨_,m,hm⟩|⟨l,_⟩
   ·exact⟨m,hm⟩
   ·obtain⟨f,g,hu,_⟩:=Wc l;rw[Ku p]at hu;cases hu
  rcases findNow_int (t:=kt) (n:=n) es 0 i with⟨j,e,q,r,w⟩|⟨q,r⟩
  ·rw[w];simp only[Qg];have:=h1 j e q r;simpa using this
  ·rw[r];exact h2 q
 ·obtain⟨f,g,hu,_⟩:=Wc p;rw[lwp_bind,Qd hu];have i:∀ e∈es,∃ c d,e.key=.agg #[.int .i64 c,.int .i64 d]:=by
   intro e he;rcases o e he with⟨l,_⟩|⟨_,c,d,hm⟩
   ·rw[Ku l]at hu;cases hu
   ·exact⟨c,d,hm⟩
  cases es with
  | nil=>exact h2 fun e he=>by simp at he
  | cons e es =>
   obtain⟨c,d,hm⟩:=i e (by simp);have:Instr.findNow (.struct #[f,g]) (.agg #[.int .i64 a,.int .i64 b]) (e::es) 0=none:=by
    unfold Instr.findNow;rw[hm];rfl
   rw[this];refine lwp_findAsking p (e::es) 0 i (fun j v s u=>?_) h2;have:=h1 j v s u;simpa using this
theorem sameBits_key(c:IsKey P kt k):Instr.sameBits 10000 k k=true:=by
 rcases c with⟨_,n,rfl⟩|⟨_,a,b,rfl⟩
 ·simp[Instr.sameBits]
 ·rw[show (10000:Nat)=9999+1 from rfl];simp[Instr.sameBits]
variable {X:XP} {Q:Leaf->LH->Prop}
theorem t_makeMap{h:LH}{k:Value->T}(a:∀ r,h.get r=none->(k (.map (some r))).wp X P Q { h with get:=h.get.upd r (true,.map #[] 0) }):(T.sem false (Instr.makeMap t none) k).wp X P Q h:=by
 refine Jh (A:=fun v h'=>∃ r,h.get r=none/\v=.map (some r)/\h'=h.get.upd r (true,.map #[] 0)) ?_ (by rintro v h' ⟨r,hr,rfl,rfl⟩;exact a r hr);unfold Instr.makeMap;rw[lwp_bind];intro r hr;exact⟨r,hr,rfl,rfl⟩
theorem t_ne2{h:LH}{K:Value->T}{x y:Operand}(g:twoInts P t=true)(e:P.eqGuardType P.depth t=false)(f:(K (.bool (!decide (a=c/\b=d)))).wp X P Q h) :
  (T.sem false (Sem.bind (eqGuard .neq t x y (.agg #[a,b]) (.agg #[c,d])) fun _=>binOp .neq t (.agg #[a,b]) (.agg #[c,d])) K).wp X P Q h:=by
 refine Jh (A:=fun w h'=>w=.bool (!decide (a=c/\b=d))/\h'=h.get) (Qz _ _ ?_) (by rintro w h' ⟨rfl,rfl⟩;exact f);unfold eqGuard;simp only[Bool.not_true,Bool.false_eq_true,if_false,lwp_bind,Jv,e,Bool.not_false,if_true,Qg];unfold binOp;rw[lwp_bind];exact lwp_equal2 g ⟨rfl,rfl⟩
theorem Hands.g{L:List (List Value)}(c:Hands X P v h₀ L):HandsG X P v h₀ (fun (i:Nat) xs j=>L[i]?=some xs/\j=i+1) (fun i=>i=L.length) 0:=by
 intro y J E d a hc h hle h0;refine CV.mono (c y J E d a (fun i h xs f k e=>hc i h xs (i+1) f ⟨k,rfl⟩ e) h hle h0) ?_;rintro b h' ⟨h1,h2|h2⟩
 ·exact⟨h1,.inl ⟨_,rfl,h2⟩⟩
 ·exact⟨h1,.inr h2⟩
theorem H8(h:LH):h.add (fun _=>none)=h:=by
 unfold LH.add;have:h.get.add (fun _=>none)=h.get:=by funext b;unfold Cells.add;cases h.get b<;>rfl
 rw[this]
theorem HandsG.f{S:Type}{nx:S->List Value->S->Prop}{fin:S->Prop}{a:S}(c:HandsG X P v h₀ nx fin a):HandsF X P v h₀ (fun _=>none) nx fin a:=by
 intro y J E d b hc h hle h0 _;rw[H8];exact c y J E d b hc h hle h0
theorem t_eachF{h hm:LH}{k₀:Cells}{body:List Value->List Value->T}{kf kb r:List Value->T}{q:Nat->List Value->T}{S:Type}{nx:S->List Value->S->Prop}{fin:S->Prop}{b:S}(μ:S->Nat)(m:∀ s xs c,nx s xs c->μ c<μ s)
 (heq:h=hm.add k₀)(i:Disj hm.get k₀)(hle:h₀.le hm)(t:HandsF X P v h₀ k₀ nx fin b)
 (I:S->List Value->LH->Prop)(h0:I b init hm)
 (e:∀ s vs h',fin s->h₀.le h'->I s vs h'->(kf vs).wp X P Q h')
 (hb:∀ s xs c vs h',nx s xs c->h₀.le h'->I s vs h'->∀ Y:List Value->LH->Prop,(∀ d a,h₀.le a->I c d a->Y d a) ->
   (body xs vs).wp X P (fun l a=>h₀.le a/\l.go a Y (fun vs h'=>(kb vs).wp X P Q h') (fun vs h'=>(r vs).wp X P Q h') (fun j vs h'=>(q j vs).wp X P Q h')) h'):(T.each v init body kf kb r q).wp X P Q h:=by
 refine⟨S,nx,fin,b,h₀,hm,k₀,heq,i,hle,t,fun Y u=>?_⟩;have key:∀ n s,μ s=n->∀ vs h',h₀.le h'->I s vs h'->Y s vs h':=by
  intro n
  induction n using Nat.strongRecOn with
  | ind n y =>
   intro s x vs h' k o;refine u s vs h' k (fun w=>e s vs h' w k o) fun xs c p=>?_;exact hb s xs c vs h' p k o _ fun d a g f=>y (μ c) (x▸m s xs c p) c rfl d a g f
 exact key _ b rfl init hm hle h0
theorem t_eachG{h:LH}{body:List Value->List Value->T}{kf kb k:List Value->T}{i:Nat->List Value->T}{S:Type}{nx:S->List Value->S->Prop}{fin:S->Prop}{b:S}(μ:S->Nat)(g:∀ s xs d,nx s xs d->μ d<μ s)(hle:h₀.le h)(m:HandsG X P v h₀ nx fin b)
 (I:S->List Value->LH->Prop)(h0:I b init h)
 (c:∀ s vs h',fin s->h₀.le h'->I s vs h'->(kf vs).wp X P Q h')
 (hb:∀ s xs d vs h',nx s xs d->h₀.le h'->I s vs h'->∀ Y:List Value->LH->Prop,(∀ e a,h₀.le a->I d e a->Y e a) ->
   (body xs vs).wp X P (fun l a=>h₀.le a/\l.go a Y (fun vs h'=>(kb vs).wp X P Q h') (fun vs h'=>(k vs).wp X P Q h') (fun j vs h'=>(i j vs).wp X P Q h')) h'):(T.each v init body kf kb k i).wp X P Q h:=by
 exact t_eachF μ g (hm:=h) (k₀:=fun _=>none) (H8 h).symm (fun _=>.inr rfl) hle (m.f) I h0 c hb
theorem Dr{h:LH}{body:List Value->List Value->T}{kf kb m:List Value->T}{k:Nat->List Value->T}{L:List (List Value)}(hle:h₀.le h)(n:Hands X P v h₀ L)(I:Nat->List Value->LH->Prop)(h0:I 0 init h)
 (b:∀ vs h',h₀.le h'->I L.length vs h'->(kf vs).wp X P Q h')
 (hb:∀ i xs vs h',L[i]?=some xs->h₀.le h'->I i vs h'->∀ Y:List Value->LH->Prop,(∀ c a,h₀.le a->I (i+1) c a->Y c a) ->
   (body xs vs).wp X P (fun l a=>h₀.le a/\l.go a Y (fun vs h'=>(kb vs).wp X P Q h') (fun vs h'=>(m vs).wp X P Q h') (fun j vs h'=>(k j vs).wp X P Q h')) h'):(T.each v init body kf kb m k).wp X P Q h:=by
 refine t_eachG (fun i=>L.length-i) (fun i xs j d=>?_) hle n.g I h0 (fun s vs h' o f e=>b vs h' f (o▸e)) fun i xs j vs h' d f e=>?_
 ·have:=(List.getElem?_eq_some_iff.1 d.1).1;have:=d.2;omega
 ·obtain⟨h1,rfl⟩:=d;exact hb i xs vs h' h1 f e
end
section
variable {P:Program} {E:Halt->Cells->Prop} {h:Cells}
variable {t:TypeId}{a b:Bool}
theorem boT_und(a:isBoolT P t=true):P.underlying t=some .bool:=by
 unfold isBoolT at a;split at a
 ·assumption
 ·cases a
theorem boT_agg(a:isBoolT P t=true):isAggT P t=false:=by
 unfold isAggT;rw[boT_und a]
theorem Wu{Q:Value->Cells->Prop}{cs:Array Value}{o:Nat}{v:Value}(a:isBoolT P t=true)(hv:cs[o]?=some v)(b:Q v h):Qe P (part t cs o) Q E h:=by
 unfold part;rw[lwp_bind,Z9 (boT_und a) (boT_agg a)];simp only[Bool.false_eq_true,if_false,hv];exact b
theorem Dv{Q:Bool->Cells->Prop}{d:Nat}(e:isBoolT P t=true)(c:Q (a==b) h):Qe P (Op.equalIn (d+1) t (.bool a) (.bool b)) Q E h:=by
 unfold Op.equalIn;rw[lwp_bind,Qd (boT_und e)];exact c
def twoBools(P:Program)(t:TypeId):Bool:=match P.underlying t with
 | some (.struct fs)=>(match fs.toList with
  | [a, b] => a.name != "_" && b.name != "_" && isBoolT P a.type && isBoolT P b.type && Nat.beq a.offset 0 && Nat.beq b.offset 1
  | _=>false)&&!P.stoodInHeld t
 | _=>false
theorem twoBools_spec(ht : twoBools P t = true) : ∃ a b : Field, P.underlying t = some (.struct #[a, b]) /\ a.name ≠ "_" /\ b.name ≠ "_" /\ isBoolT P a.type = true /\ isBoolT P b.type = true /\ a.offset = 0 /\ b.offset = 1 /\ P.stoodInHeld t = false := by
 unfold twoBools at ht;split at ht
 ·rename_i fs hu;simp only[Bool.and_eq_true,Bool.not_eq_true']at ht;obtain⟨h1,h2⟩:=ht;split at h1
  ·rename_i a b hfs;simp only[Bool.and_eq_true,bne_iff_ne]at h1;obtain⟨⟨⟨⟨⟨h3,h4⟩,h5⟩,h6⟩,h7⟩,h8⟩:=h1;have:fs=#[a,b]:=by rw[<- hfs]
   exact⟨a,b,by rw[hu,this],h3,h4,h5,h6,Jc h7,Jc h8,h2⟩
  ·cases h1
 ·cases ht
theorem lwp_equalBB{Q:Bool->Cells->Prop}{c d:Bool}(p:twoBools P t=true)(l:Q (decide (a=c/\b=d)) h):Qe P (Op.equal t (.agg #[.bool a,.bool b]) (.agg #[.bool c,.bool d])) Q E h:=by
 obtain⟨f,g,hu,q,r,i1,i2,m,n,o⟩:=twoBools_spec p;unfold Op.equal;have k:Op.maxDepth=9998+1+1:=rfl;rw[k,Op.equalIn];rw[lwp_bind,Qd hu];simp only[lwp_bind,Jv,o,Bool.false_eq_true,if_false,List.forIn_toArray,List.forIn_cons,List.forIn_nil,q,r,ne_eq,not_false_eq_true,if_true];refine Wu i1 (v:=.bool a) (by rw[m];rfl) ?_;refine Wu i1 (v:=.bool c) (by rw[m];rfl) ?_;refine Dv i1 ?_;by_cases e:a=c
 ·subst e;simp only[beq_self_eq_true,Bool.not_true,Bool.false_eq_true,if_false,Qg,lwp_bind];refine Wu i2 (v:=.bool b) (by rw[n];rfl) ?_;refine Wu i2 (v:=.bool d) (by rw[n];rfl) ?_;refine Dv i2 ?_;by_cases i:b=d
  ·subst i;simpa[Qg] using l
  ·have j:(b==d)=false:=by simpa using i
   simpa[Qg,i,j] using l
 ·have j:(a==c)=false:=by simpa using e
  simpa[Qg,e,j] using l
theorem lwp_equalA5{Q:Bool->Cells->Prop}{el:TypeId}{s b:Nat}{z:Option Value}{a c d e f g j k l m:Bool}(hu:P.underlying t=some (.array 5 el))(he:isBoolT P el=true)(F:(P.info? el).map (fun i=>(i.size,i.bytes,i.zero))=some (1,b,z))
 (o:Q (decide ([a,c,d,e,f]=[g,j,k,l,m])) h):Qe P (Op.equal t (.agg #[.bool a,.bool c,.bool d,.bool e,.bool f]) (.agg #[.bool g,.bool j,.bool k,.bool l,.bool m])) Q E h:=by
 obtain⟨inf,C,D,_,_⟩:=Z3 F;unfold Op.equal;have B:Op.maxDepth=9998+1+1:=rfl;rw[B,Op.equalIn];rw[lwp_bind,Qd hu];simp only[lwp_bind,Q2 C,D];simp only[Std.Legacy.Range.forIn_eq_forIn_range',show (List.range' 0 ([:5]:Std.Legacy.Range).size)=[0,1,2,3,4] by decide,List.forIn_cons,List.forIn_nil,lwp_bind];have step:∀ (i:Nat) (x y:Bool) {K:Bool->Cells->Prop},(#[Value.bool a,.bool c,.bool d,.bool e,.bool f])[i*1]?=some (.bool x)->(#[Value.bool g,.bool j,.bool k,.bool l,.bool m])[i*1]?=some (.bool y)->K (x==y) h ->
   Qe P (part el #[Value.bool a,.bool c,.bool d,.bool e,.bool f] (i*1)) (fun p h=>Qe P (part el #[Value.bool g,.bool j,.bool k,.bool l,.bool m] (i*1)) (fun q h=>Qe P (Op.equalIn (9998+1) el p q) K E h) E h) E h:=by
  intro i x y K h1 h2 G;refine Wu he h1 (Wu he h2 (Dv he G))
 refine step 0 a g rfl rfl ?_;by_cases r:a=g
 ·subst r;simp only[beq_self_eq_true,Bool.not_true,Bool.false_eq_true,if_false,Qg,lwp_bind];refine step 1 c j rfl rfl ?_;by_cases u:c=j
  ·subst u;simp only[beq_self_eq_true,Bool.not_true,Bool.false_eq_true,if_false,Qg,lwp_bind];refine step 2 d k rfl rfl ?_;by_cases v:d=k
   ·subst v;simp only[beq_self_eq_true,Bool.not_true,Bool.false_eq_true,if_false,Qg,lwp_bind];refine step 3 e l rfl rfl ?_;by_cases w:e=l
    ·subst w;simp only[beq_self_eq_true,Bool.not_true,Bool.false_eq_true,if_false,Qg,lwp_bind];refine step 4 f m rfl rfl ?_;by_cases A:f=m
     ·subst A;simpa[Qg] using o
     ·have n:(f==m)=false:=by simpa using A
      simpa[Qg,A,n] using o
    ·have n:(e==l)=false:=by simpa using w
     simpa[Qg,w,n] using o
   ·have n:(d==k)=false:=by simpa using v
    simpa[Qg,v,n] using o
  ·have n:(c==j)=false:=by simpa using u
   simpa[Qg,u,n] using o
 ·have n:(a==g)=false:=by simpa using r
  simpa[Qg,r,n] using o
section
variable {X:XP} {Q:Leaf->LH->Prop}
variable {K:Value->T}{t el:TypeId}{x y:Operand}{b n:Nat}{z:Option Value}
theorem t_eqBB{h:LH}{a b c d:Bool}(g:twoBools P t=true)(e:P.eqGuardType P.depth t=false)(f:(K (.bool (decide (a=c/\b=d)))).wp X P Q h) :
  (T.sem false (Sem.bind (eqGuard .eql t x y (.agg #[.bool a,.bool b]) (.agg #[.bool c,.bool d])) fun _=>binOp .eql t (.agg #[.bool a,.bool b]) (.agg #[.bool c,.bool d])) K).wp X P Q h:=by
 refine Jh (A:=fun w h'=>w=.bool (decide (a=c/\b=d))/\h'=h.get) (Qz _ _ ?_) (by rintro w h' ⟨rfl,rfl⟩;exact f);unfold eqGuard;simp only[Bool.not_true,Bool.false_eq_true,if_false,lwp_bind,Jv,e,Bool.not_false,if_true,Qg];unfold binOp;rw[lwp_bind];exact lwp_equalBB g ⟨rfl,rfl⟩
theorem t_eqA5{h:LH}{a c d e f g j k l m:Bool}(hu:P.underlying t=some (.array 5 el))(he:isBoolT P el=true)(o:(P.info? el).map (fun i=>(i.size,i.bytes,i.zero))=some (1,b,z))(n:P.eqGuardType P.depth t=false)
 (p:(K (.bool (decide ([a,c,d,e,f]=[g,j,k,l,m])))).wp X P Q h) :
  (T.sem false (Sem.bind (eqGuard .eql t x y (.agg #[.bool a,.bool c,.bool d,.bool e,.bool f]) (.agg #[.bool g,.bool j,.bool k,.bool l,.bool m])) fun _=>binOp .eql t (.agg #[.bool a,.bool c,.bool d,.bool e,.bool f]) (.agg #[.bool g,.bool j,.bool k,.bool l,.bool m])) K).wp X P Q h:=by
 refine Jh (A:=fun w h'=>w=.bool (decide ([a,c,d,e,f]=[g,j,k,l,m]))/\h'=h.get) (Qz _ _ ?_) (by rintro w h' ⟨rfl,rfl⟩;exact p);unfold eqGuard;simp only[Bool.not_true,Bool.false_eq_true,if_false,lwp_bind,Jv,n,Bool.not_false,if_true,Qg];unfold binOp;rw[lwp_bind];exact lwp_equalA5 (s:=1) hu he o ⟨rfl,rfl⟩
theorem t_sliceArr{h:LH}{i s:Nat}{a:Addr}(hu:P.underlying t=some (.array n el))(f:(P.info? el).map (fun i=>(i.size,i.bytes,i.zero))=some (s,b,z))(g:i<=n)
 (j:∀ c,(i=0->c=a)->(i≠0->c=a.add 0)->(K (.slice (some c) i i)).wp X P Q h):(T.sem false (Instr.sliceAt t (.pointer (some a)) none (some (.int .i64 (i:Int))) (some (.int .i64 (i:Int)))) K).wp X P Q h:=by
 obtain⟨inf,d,k,_,_⟩:=Z3 f;refine Jh (A:=fun v h'=>h'=h.get/\(K v).wp X P Q h) ?_ (by rintro v h' ⟨rfl,hw⟩;exact hw);unfold Instr.sliceAt;simp only[lwp_bind,Qd hu,Instr.sureAddr];unfold Instr.sliceBounds Instr.sliceBound;simp only[lwp_bind,Qg,asIntOf];rw[if_pos (show 0<=(i:Int)/\(i:Int)<=(n:Int) by omega)];simp only[Qg,lwp_bind,Int.toNat_natCast];rw[if_pos (show 0<=(i:Int)/\(i:Int)<=(i:Int) by omega)];simp only[Qg,lwp_bind,Int.toNat_natCast,Q2 d,Nat.zero_mul,Nat.sub_zero];refine⟨trivial,j _ (fun e=>?_) (fun e=>?_)⟩
 ·rw[if_pos e]
 ·rw[if_neg e]
theorem t_makeSlice{h:LH}{z:Value}(hu:P.underlying t=some (.slice el))(s:(P.info? el).map (fun i=>(i.size,i.bytes,i.zero))=some (1,b,some z))(B:z.cells=#[z])(hb:b<=1024)(y:n<=2^30)
 (w:∀ r cs,h.get r=none->cs.size=n->(∀ j,j<n->cs[j]?=some z)->(K (.slice (some ⟨r,0,none⟩) n n)).wp X P Q { h with get:=h.get.upd r (true,.cells cs el (0,0)) }):(T.sem false (Instr.makeSlice t (.int .i64 (n:Int)) (.int .i64 (n:Int))) K).wp X P Q h:=by
 obtain⟨inf,f,p,q,g4⟩:=Z3 s;refine Jh (A:=fun v h'=>∃ r cs,h.get r=none/\cs.size=n/\(∀ j,j<n->cs[j]?=some z)/\v=.slice (some ⟨r,0,none⟩) n n/\h'=h.get.upd r (true,.cells cs el (0,0))) ?_ (by rintro v h' ⟨r,cs,h1,h2,h3,rfl,rfl⟩;exact w r cs h1 h2 h3);unfold Instr.makeSlice;have hw:IntKind.i64.wrap (n:Int)=n:=Qm (by omega) (by omega);simp only[lwp_bind,Qd hu,asInt,asIntOf,Qg,Z1 f,hw,q];have g:b*n<=1024*2^30:=Nat.mul_le_mul hb y;have hle:((b:Int)*(n:Int))<=1024*2^30:=by
  have:((b*n:Nat):Int)<=((1024*2^30:Nat):Int):=Int.ofNat_le.2 g;simpa using this
 have m:¬ ((decide ((n:Int)<0)||decide (((b:Int)*(n:Int))>2^48)||decide ((n:Int)<0)||decide ((n:Int)>(n:Int)))=true):=by
  simp;omega
 have o:(((decide ((n:Int)<0)||decide (((b:Int)*(n:Int))>2^48))||decide ((n:Int)<0))||decide ((n:Int)>(n:Int)))=false:=by
  simp;omega
 rw[if_neg (by simpa using o)];have c:∀ {K:Unit->Cells->Prop},K () h.get->Qe P (askRoom ((n:Int).toNat*b)) K (fun _ _=>False) h.get:=by
  intro K l;unfold askRoom;split
  ·exact⟨.inl rfl,l⟩
  ·exact l
 simp only[lwp_bind];refine c ?_;simp only[Q2 f,p,Nat.mul_one,Int.toNat_natCast];have fin:∀ d:Array Value,(n≠0->d=#[z])->Qe P (newRow el ((Array.range n).map fun x=>d[x%d.size]!)) (fun a h'=>Qe P (pure (Value.slice (some a) n n)) (fun v h'=>∃ r cs,h.get r=none/\cs.size=n/\(∀ j,j<n->cs[j]?=some z)/\v=.slice (some ⟨r,0,none⟩) n n/\h'=h.get.upd r (true,.cells cs el (0,0))) (fun _ _=>False) h') (fun _ _=>False) h.get:=by
  intro d k;refine Kf fun r hr=>?_;rw[Qg];refine⟨r,_,hr,by simp,fun j u=>?_,rfl,rfl⟩;have:=k (by omega);subst this;simp[u,Nat.mod_one]
 by_cases h0:n=0
 ·simp only[h0,if_true,Qg];subst h0;exact fin #[] (fun e=>absurd rfl e)
 ·simp only[if_neg h0,lwp_bind,Ze f g4,Qg,B];exact fin #[z] (fun _=>rfl)
theorem CV.frame(p:XOK X){v:Value}{args:Array Value}{h:LH}{A:Value->LH->Prop}(c:CV X P v args h A){k:Cells}(d:Disj h.get k):CV X P v args (h.add k) fun r a=>∃ h',Disj h'.get k/\a=h'.add k/\A r h':=by
 intro main R o fr cs t s;have e:=c main (fun g h=>Disj h.get k->R g (h.add k)) (o.frame p k) fr cs t ?_
 ·refine Q7 _ (Ki _ e d) ?_ ?_
  ·rintro nx a ⟨h',l,rfl,i⟩;cases nx<;>first|exact i.elim|exact i l
  ·rintro u a ⟨_,_,_,q⟩;exact q.elim
 ·intro v h' j b n f;have d1:Disj h'.get k:=f.of_add_left;have d2:Disj j k:=Qx b f;have m:(h'.add j).add k=(h'.add k).add j:=by unfold LH.add;simp only;rw[Q4 d2]
  rw[m];exact s v (h'.add k) j (Disj.add b d2.symm) ⟨h',d1,rfl,n⟩
end
end
end Go.TM
section
namespace Go.Y.Tre
theorem inf3:(Tryz.prog.info? 3).map (fun i=>(i.size,i.bytes,i.zero))=some (1,8,some (.int .i64 0)):=by kernel_rfl
theorem inf4:(Tryz.prog.info? 4).map (fun i=>(i.size,i.bytes,i.zero))=some (1,1,some (.bool false)):=by kernel_rfl
theorem inf30:(Tryz.prog.info? 46).map (fun i=>(i.size,i.bytes,i.zero))=some (2,16,some (.agg #[.int .i64 0,.int .i64 0])):=by kernel_rfl
theorem inf50:(Tryz.prog.info? 47).map (fun i=>(i.size,i.bytes,i.zero))=some (1,24,some (.slice none 0 0)):=by kernel_rfl
theorem infEv:(Tryz.prog.info? 120).map (fun i=>(i.size,i.bytes,i.zero))=some (5,56,some (.agg #[.int .i64 0,.int .i64 0,.int .i64 0,.slice none 0 0,.int .i64 0])):=by kernel_rfl
theorem infAsk:(Tryz.prog.info? 201).map (fun i=>(i.size,i.bytes,i.zero))=some (12,112,some (.agg #[.int .i64 0,.int .i64 0,.int .i64 0,.int .i64 0,.int .i64 0,.int .i64 0,.slice none 0 0,.int .i64 0,.int .i64 0,.int .i64 0,.int .i64 0,.bool false])):=by kernel_rfl
theorem infTitle:(Tryz.prog.info? 256).map (fun i=>(i.size,i.bytes,i.zero))=some (1,16,some .nilIface):=by kernel_rfl
theorem und22:Tryz.prog.underlying 22=some (.slice 46):=by kernel_rfl
theorem und50:Tryz.prog.underlying 47=some (.slice 3):=by kernel_rfl
theorem undBs:Tryz.prog.underlying 122=some (.slice 4):=by kernel_rfl
theorem undEvs:Tryz.prog.underlying 36=some (.slice 120):=by kernel_rfl
theorem undAsks:Tryz.prog.underlying 264=some (.slice 201):=by kernel_rfl
theorem Uo:Tryz.prog.underlying 253=some (.slice 256):=by kernel_rfl
theorem undItems:Tryz.prog.underlying 193=some (.array 5 4):=by kernel_rfl
theorem undMap:Tryz.prog.underlying 198=some (.map 3 4):=by kernel_rfl
theorem i64_3:Gd Tryz.prog 3=true:=by kernel_rfl
theorem bo4:isBoolT Tryz.prog 4=true:=by kernel_rfl
theorem twoUses:twoBools Tryz.prog 134=true:=by kernel_rfl
theorem gUses:Tryz.prog.eqGuardType Tryz.prog.depth 134=false:=by kernel_rfl
theorem gItems:Tryz.prog.eqGuardType Tryz.prog.depth 193=false:=by kernel_rfl
theorem two30:twoInts Tryz.prog 46=true:=by kernel_rfl
theorem g30:Tryz.prog.eqGuardType Tryz.prog.depth 46=false:=by kernel_rfl
theorem undCI:Tryz.prog.underlying 154=some (.chan .both 47):=by kernel_rfl
theorem undCB:Tryz.prog.underlying 206=some (.chan .both 4):=by kernel_rfl
end Go.Y.Tre
end
namespace Go.TM.Tr
section
structure Ev where
 kind:Int
 day:Int
 land:Int
 items:List Int
 since:Int
 deriving DecidableEq
structure TF where
 items:Int
 lands:Int
 start:Int
 depend:Int
 refuse:Int
 turn:Int
 events:List Ev
 deriving DecidableEq
def least:List Int->Int
 | []=>10000
 | x::l=>if x<least l then x else least l
variable {l m:List Int}
theorem lt_least{n:Int}:∀ {l:List Int},n<least l↔n<10000/\∀ v∈l,n<v
 | []=>by simp[least]
 | x::l=>by
  have a:=lt_least (n:=n) (l:=l);rw[least];simp only[List.mem_cons,forall_eq_or_imp];split
  ·rename_i h;constructor
   ·intro h1;have:=a.1 (by omega);exact⟨this.1,h1,this.2⟩
   ·intro h1;exact h1.2.1
  ·rename_i h;constructor
   ·intro h1;have:=a.1 h1;exact⟨this.1,by omega,this.2⟩
   ·intro h1;exact a.2 ⟨h1.1,h1.2.2⟩
theorem G0{n:Int}:least l<=n↔10000<=n\/∃ v∈l,v<=n:=by
 rw[<- Int.not_lt,lt_least];constructor
 ·intro h;by_cases h1:10000<=n
  ·exact .inl h1
  ·right;apply Classical.byContradiction;intro h2;exact h ⟨by omega,fun v hv=>by
    apply Int.not_le.1;exact fun h3=>h2 ⟨v,hv,h3⟩⟩
 ·rintro(h|⟨v,hv,h⟩) ⟨h1,h2⟩
  ·omega
  ·have:=h2 v hv;omega
theorem Z2:∀ {l:List Int},least l=10000\/least l∈l
 | []=>.inl rfl
 | x::l=>by
  rw[least];split
  ·exact .inr (by simp)
  ·rcases Z2 (l:=l) with h|h
   ·exact .inl h
   ·exact .inr (List.mem_cons_of_mem _ h)
theorem G1(l:List Int):least l<=10000:=G0.2 (.inl (Int.le_refl _))
theorem Dx(h:∀ v,v∈l↔v∈m):least l=least m:=by
 have key:∀ {l m:List Int},(∀ v,v∈l↔v∈m)->least l<=least m:=by
  intro l m h;rw[G0];rcases Z2 (l:=m) with h1|h1
  ·left;omega
  ·exact .inr ⟨_,(h _).2 h1,Int.le_refl _⟩
 exact Int.le_antisymm (key h) (key fun v=>(h v).symm)
theorem least_more(h:∀ v∈l,∃ w∈m,w<=v):least m<=least l:=by
 rw[G0];rcases Z2 (l:=l) with h1|h1
 ·left;omega
 ·obtain⟨w,hw,h2⟩:=h _ h1;exact .inr ⟨w,hw,h2⟩
def about(e:Ev)(kind land item:Int):Bool:=(e.kind==kind)&&((e.land==land)&&e.items.contains item)
def early(x:TF)(e:Ev):Bool:=(e.kind==4)&&decide (e.since<=x.start+x.depend)
def fallsL(x:TF)(i f:Int):List Int:=(x.events.filter fun e=>early x e&&(e.items.contains i&&decide (f<=e.day))).map (·.day)
def falls(x:TF)(i f:Int):Int:=least (fallsL x i f)
def limitsL(x:TF)(k i f:Int):List Int:=(x.events.filter fun e=>about e 3 k i&&decide (f<=e.day)).map (·.day)
def limits(x:TF)(k i f:Int):Int:=least (limitsL x k i f)
def lifted(x:TF)(k i r d:Int):Bool:=x.events.any fun l=>about l 2 k i&&decide (r<=l.day/\l.day<=d)
def refused(x:TF)(k i a d:Int):Bool:=x.events.any fun r=>about r 1 k i&&(decide (a<=r.day/\r.day<=a+x.refuse/\r.day<=d)&&!lifted x k i r.day d)
def askDays(x:TF)(k i:Int):List Int:=(x.events.filter fun e=>about e 0 k i&&decide (e.day<falls x i 0)).map (·.day)
def askEnd(x:TF)(k i a:Int):Int:=if limits x k i a<falls x i a then limits x k i a else falls x i a
def fallen(x:TF)(k i a:Int):Bool:=decide (falls x i a<limits x k i a)
def goodBy(x:TF)(k i d a:Int):Bool:=fallen x k i a&&(decide (askEnd x k i a<=d/\d<=askEnd x k i a+x.turn)&&!refused x k i a (askEnd x k i a-1))
def turnedL(x:TF)(k i d:Int):List Int:=(askDays x k i).filter (goodBy x k i d)
def leastOr(l:List Int):Int:=if l.isEmpty then -1 else least l
def turned(x:TF)(k i d:Int):Int:=leastOr (turnedL x k i d)
def askHeld(x:TF)(k i d:Int):List Int:=(askDays x k i).filter fun a=>decide (a<=d/\d<askEnd x k i a)&&!refused x k i a d
def turnHeld(x:TF)(k i d:Int):List Int:=(x.events.filter fun e=>about e 5 k i&&(decide (0<=turned x k i e.day)&&decide (e.day<=d/\d<limits x k i e.day))).map fun e=>turned x k i e.day
def held(x:TF)(k i d:Int):List Int:=askHeld x k i d++turnHeld x k i d
def oldL(x:TF)(k i d a:Int):List Int:=(x.events.filter fun e=>about e 6 k i&&(decide (e.day<=d)&&decide (e.since<=a))).map (·.since)
def dated(x:TF)(k i d a:Int):Int:=least (a::oldL x k i d a)
def dateOn(x:TF)(k i d:Int):Int:=leastOr ((held x k i d).map (dated x k i d))
namespace Same
variable {x y:TF}
end Same
end
section
def has(x:TF)(k i K t:Int):Prop:=∃ e∈x.events,about e K k i=true/\e.day=t
def fell(x:TF)(i t:Int):Prop:=∃ e∈x.events,early x e=true/\e.items.contains i=true/\e.day=t
def older(x:TF)(k i t s:Int):Prop:=∃ e∈x.events,about e 6 k i=true/\e.day=t/\e.since=s
variable {x:TF}{i v k d a:Int}{l:List Int}
theorem Wq{f:Int}:v∈fallsL x i f↔fell x i v/\f<=v:=by
 unfold fallsL fell;simp only[List.mem_map,List.mem_filter,Bool.and_eq_true,decide_eq_true_eq];constructor
 ·rintro⟨e,⟨h1,h2,h3,a⟩,rfl⟩;exact⟨⟨e,h1,h2,h3,rfl⟩,a⟩
 ·rintro⟨⟨e,h1,h2,h3,rfl⟩,a⟩;exact⟨e,⟨h1,h2,h3,a⟩,rfl⟩
theorem Hf{f:Int}:v∈limitsL x k i f↔has x k i 3 v/\f<=v:=by
 unfold limitsL has;simp only[List.mem_map,List.mem_filter,Bool.and_eq_true,decide_eq_true_eq];constructor
 ·rintro⟨e,⟨h1,h2,h3⟩,rfl⟩;exact⟨⟨e,h1,h2,rfl⟩,h3⟩
 ·rintro⟨⟨e,h1,h2,rfl⟩,h3⟩;exact⟨e,⟨h1,h2,h3⟩,rfl⟩
theorem lifted_iff{r:Int}:lifted x k i r d=true↔∃ t,has x k i 2 t/\r<=t/\t<=d:=by
 unfold lifted has;simp only[List.any_eq_true,Bool.and_eq_true,decide_eq_true_eq];constructor
 ·rintro⟨e,h1,h2,h3⟩;exact⟨_,⟨e,h1,h2,rfl⟩,h3⟩
 ·rintro⟨_,⟨e,h1,h2,rfl⟩,h3⟩;exact⟨e,h1,h2,h3⟩
theorem refused_iff:refused x k i a d=true↔∃ t,has x k i 1 t/\(a<=t/\t<=a+x.refuse/\t<=d)/\¬ ∃ l,has x k i 2 l/\t<=l/\l<=d:=by
 unfold refused;simp only[List.any_eq_true,Bool.and_eq_true,decide_eq_true_eq,Bool.not_eq_true',<- Bool.not_eq_true,lifted_iff];constructor
 ·rintro⟨e,h1,h2,h3,b⟩;exact⟨_,⟨e,h1,h2,rfl⟩,h3,b⟩
 ·rintro⟨_,⟨e,h1,h2,rfl⟩,h3,b⟩;exact⟨e,h1,h2,h3,b⟩
theorem Yn:v∈askDays x k i↔has x k i 0 v/\v<falls x i 0:=by
 unfold askDays has;simp only[List.mem_map,List.mem_filter,Bool.and_eq_true,decide_eq_true_eq];constructor
 ·rintro⟨e,⟨h1,h2,h3⟩,rfl⟩;exact⟨⟨e,h1,h2,rfl⟩,h3⟩
 ·rintro⟨⟨e,h1,h2,rfl⟩,h3⟩;exact⟨e,⟨h1,h2,h3⟩,rfl⟩
theorem Hs:v∈askHeld x k i d↔(has x k i 0 v/\v<falls x i 0)/\(v<=d/\d<askEnd x k i v)/\¬ refused x k i v d=true:=by
 unfold askHeld;simp only[List.mem_filter,Yn,Bool.and_eq_true,decide_eq_true_eq,Bool.not_eq_true',<- Bool.not_eq_true]
theorem He:v∈turnHeld x k i d↔∃ t,has x k i 5 t/\0<=turned x k i t/\(t<=d/\d<limits x k i t)/\v=turned x k i t:=by
 unfold turnHeld has;simp only[List.mem_map,List.mem_filter,Bool.and_eq_true,decide_eq_true_eq];constructor
 ·rintro⟨e,⟨h1,h2,h3,a⟩,rfl⟩;exact⟨_,⟨e,h1,h2,rfl⟩,h3,a,rfl⟩
 ·rintro⟨_,⟨e,h1,h2,rfl⟩,h3,a,rfl⟩;exact⟨e,⟨h1,h2,h3,a⟩,rfl⟩
theorem Uh:v∈held x k i d↔v∈askHeld x k i d\/v∈turnHeld x k i d:=by
 unfold held;rw[List.mem_append]
theorem Ug:v∈oldL x k i d a↔(∃ t,older x k i t v/\t<=d)/\v<=a:=by
 unfold oldL older;simp only[List.mem_map,List.mem_filter,Bool.and_eq_true,decide_eq_true_eq];constructor
 ·rintro⟨e,⟨h1,h2,h3,b⟩,rfl⟩;exact⟨⟨_,⟨e,h1,h2,rfl,rfl⟩,h3⟩,b⟩
 ·rintro⟨⟨_,⟨e,h1,h2,rfl,rfl⟩,h3⟩,b⟩;exact⟨e,⟨h1,h2,h3,b⟩,rfl⟩
theorem Ke:v∈turnedL x k i d↔(has x k i 0 v/\v<falls x i 0)/\(fallen x k i v=true/\(askEnd x k i v<=d/\d<=askEnd x k i v+x.turn)/\¬ refused x k i v (askEnd x k i v-1)=true):=by
 unfold turnedL goodBy;simp only[List.mem_filter,Yn,Bool.and_eq_true,decide_eq_true_eq,Bool.not_eq_true',<- Bool.not_eq_true]
theorem Gc(h:∀ v∈l,0<=v/\v<10000):(leastOr l = -1/\l=[])\/(leastOr l∈l/\leastOr l=least l):=by
 unfold leastOr;cases l with
 | nil=>exact .inl ⟨rfl,rfl⟩
 | cons a l =>
  right;simp only[List.isEmpty_cons,Bool.false_eq_true,if_false];rcases Z2 (l:=a::l) with h2|h2
  ·have h3:=h a (by simp);have b:least (a::l)<=a:=G0.2 (.inr ⟨a,by simp,Int.le_refl _⟩);omega
  ·exact⟨h2,trivial⟩
theorem leastOr_more{m:List Int}(b:∀ v∈l,0<=v/\v<10000)(hm:∀ v∈m,0<=v/\v<10000)(h:∀ v∈l,∃ w∈m,w<=v)(h0:0<=leastOr l):0<=leastOr m/\leastOr m<=leastOr l:=by
 rcases Gc b with⟨h1,_⟩|⟨h1,h2⟩
 ·omega
 ·obtain⟨w,hw,h3⟩:=h _ h1;rcases Gc hm with⟨_,a⟩|⟨a,h5⟩
  ·rw[a]at hw;simp at hw
  ·have:leastOr m<=w:=by rw[h5];exact G0.2 (.inr ⟨w,hw,Int.le_refl _⟩)
   have:=(hm _ a).1;exact⟨this,by omega⟩
structure Facts(x y:TF)(k i d:Int):Prop where
 refuse:y.refuse=x.refuse
 turn:y.turn=x.turn
 has:∀ K t,K≠6->K≠4->t<=d->(has y k i K t↔has x k i K t)
 fell:∀ t,t<=d->(fell y i t↔fell x i t)
 older:∀ t s,t<=d->(older y k i t s↔older x k i t s)
namespace Facts
variable {x y:TF} {k i d:Int}
theorem turned_le{x:TF}{k i d v:Int}(h:v∈turnedL x k i d):v<=Tr.askEnd x k i v/\Tr.askEnd x k i v<=d:=by
 obtain⟨_,_,h2,_⟩:=Ke.1 h;refine⟨?_,h2.1⟩;unfold Tr.askEnd;have h1:v<=Tr.limits x k i v\/Tr.limits x k i v=10000:=by
  rcases Z2 (l:=limitsL x k i v) with h|h
  ·exact .inr h
  ·exact .inl (Hf.1 h).2
 have h3:v<=Tr.falls x i v\/Tr.falls x i v=10000:=by
  rcases Z2 (l:=fallsL x i v) with h|h
  ·exact .inr h
  ·exact .inl (Wq.1 h).2
 have a:v<10000:=by
  have:=(Ke.1 h).1.2;have:=G1 (fallsL x i 0);unfold Tr.falls at *;omega
 split<;>omega
end Facts
end
section
def Ok(x:TF):Prop:=∀ e∈x.events,0<=e.day/\e.day<=9999/\0<=e.since/\e.since<=e.day
variable {x:TF}{i a b k d:Int}
theorem Ok.has{x:TF}(v:Ok x){k i K t:Int}(h:has x k i K t):0<=t/\t<=9999:=by
 obtain⟨e,h1,_,rfl⟩:=h;have:=v e h1;omega
theorem Ok.older{x:TF}(v:Ok x){k i t s:Int}(h:older x k i t s):0<=s/\s<=t/\t<=9999:=by
 obtain⟨e,h1,_,rfl,rfl⟩:=h;have:=v e h1;omega
theorem Ok.turnedL{x:TF}(v:Ok x){k i d:Int}:∀ n∈turnedL x k i d,0<=n/\n<10000:=fun n h=>by
 have:=v.has (Ke.1 h).1.1;omega
theorem Hr(v:Ok x)(k i d:Int):(turned x k i d = -1/\turnedL x k i d=[])\/(turned x k i d∈turnedL x k i d/\turned x k i d=least (turnedL x k i d)):=Gc v.turnedL
theorem falls_up(h:a<=b):falls x i a<=falls x i b :=
 least_more fun v hv=>by
  obtain⟨h1,h2⟩:=Wq.1 hv;exact⟨v,Wq.2 ⟨h1,by omega⟩,Int.le_refl _⟩
theorem turned_lt(v:Ok x){n:Int}(h:n∈turnedL x k i d):n<d:=by
 have hle:=Facts.turned_le h;obtain⟨⟨h0,h1⟩,h2,h3,_⟩:=Ke.1 h;have:=falls_up (x:=x) (i:=i) (v.has h0).1;unfold fallen at h2;unfold askEnd at h3;rw[decide_eq_true_eq]at h2;rw[if_neg (by omega)]at h3;omega
theorem held_vals(v:Ok x)(h:a∈held x k i d):0<=a/\a<=d/\a<=9999/\has x k i 0 a:=by
 rcases Uh.1 h with h|h
 ·obtain⟨⟨h1,_⟩,h2,_⟩:=Hs.1 h;have:=v.has h1;exact⟨this.1,h2.1,this.2,h1⟩
 ·obtain⟨t,h1,h2,h3,rfl⟩:=He.1 h;rcases Hr v k i t with⟨e,_⟩|⟨e,_⟩
  ·omega
  ·have b:=turned_lt v e;have h5:=(Ke.1 e).1.1;have:=v.has h5;exact⟨this.1,by omega,this.2,h5⟩
theorem dated_vals(v:Ok x)(c:0<=a/\a<=9999):0<=dated x k i d a/\dated x k i d a<=a/\(dated x k i d a=a\/∃ t,older x k i t (dated x k i d a)/\t<=d):=by
 have h1:dated x k i d a<=a:=G0.2 (.inr ⟨a,by simp,Int.le_refl _⟩);rcases Z2 (l:=a::oldL x k i d a) with h|h
 ·unfold dated at h1 ⊢;omega
 ·rcases List.mem_cons.1 h with h|h
  ·exact⟨by unfold dated;omega,h1,.inl h⟩
  ·obtain⟨⟨t,h2,h3⟩,b⟩:=Ug.1 h;exact⟨(v.older h2).1,h1,.inr ⟨t,h2,h3⟩⟩
theorem Dk(v:Ok x):∀ n∈(held x k i d).map (dated x k i d),0<=n/\n<10000:=by
 intro n c;obtain⟨a,b,rfl⟩:=List.mem_map.1 c;obtain⟨h1,h2,h3,_⟩:=held_vals v b;have:=dated_vals v (k:=k) (i:=i) (d:=d) ⟨h1,h3⟩;omega
theorem dated_mono(h:a<=b):dated x k i d a<=dated x k i d b :=
 least_more fun v hv=>by
  rcases List.mem_cons.1 hv with rfl|hv
  ·exact⟨a,by simp,h⟩
  ·obtain⟨h1,h2⟩:=Ug.1 hv;by_cases e:v<=a
   ·exact⟨v,List.mem_cons_of_mem _ (Ug.2 ⟨h1,e⟩),Int.le_refl _⟩
   ·exact⟨a,by simp,by omega⟩
structure Gives(x y:TF)(k i:Int):Prop where
 refuse:y.refuse=x.refuse
 turn:y.turn=x.turn
 h0:∀ t,has x k i 0 t->has y k i 0 t
 h1:∀ t,has y k i 1 t↔has x k i 1 t
 h2:∀ t,has x k i 2 t->has y k i 2 t
 h3:∀ t,has y k i 3 t↔has x k i 3 t
 h5:∀ t,has x k i 5 t->has y k i 5 t
 fell:∀ t,fell y i t↔fell x i t
 older:∀ t s,older y k i t s↔older x k i t s
namespace Gives
variable {x y:TF} {k i:Int}
theorem falls(s:Gives x y k i)(f:Int):Tr.falls y i f=Tr.falls x i f:=Dx fun v=>by rw[Wq,Wq,s.fell]
theorem limits(s:Gives x y k i)(f:Int):Tr.limits y k i f=Tr.limits x k i f:=Dx fun v=>by rw[Hf,Hf,s.h3]
theorem askEnd(s:Gives x y k i)(a:Int):Tr.askEnd y k i a=Tr.askEnd x k i a:=by unfold Tr.askEnd;rw[s.falls,s.limits]
theorem refused(s:Gives x y k i){a d:Int}(h:Tr.refused y k i a d=true):Tr.refused x k i a d=true:=by
 obtain⟨t,b,c,e⟩:=refused_iff.1 h;exact refused_iff.2 ⟨t,(s.h1 t).1 b,by rw[<- s.refuse];exact c,fun ⟨l,g4,g5⟩=>e ⟨l,s.h2 l g4,g5⟩⟩
theorem turnedL(s:Gives x y k i){d v:Int}(h:v∈Tr.turnedL x k i d):v∈Tr.turnedL y k i d:=by
 obtain⟨⟨a,b⟩,c,e,g4⟩:=Ke.1 h;refine Ke.2 ⟨⟨s.h0 v a,by rw[s.falls];exact b⟩,?_,by rw[s.askEnd,s.turn];exact e,by rw[s.askEnd];exact fun f=>g4 (s.refused f)⟩;unfold fallen at *;rw[s.falls,s.limits];exact c
theorem turned(s:Gives x y k i)(a:Ok x)(b:Ok y){d:Int}(h:0<=Tr.turned x k i d):0<=Tr.turned y k i d/\Tr.turned y k i d<=Tr.turned x k i d :=
 leastOr_more a.turnedL b.turnedL (fun v hv=>⟨v,s.turnedL hv,Int.le_refl _⟩) h
theorem held(s:Gives x y k i)(g:Ok x)(j:Ok y){d v:Int}(h:v∈Tr.held x k i d):∃ w∈Tr.held y k i d,w<=v:=by
 rcases Uh.1 h with h|h
 ·obtain⟨⟨e,a⟩,b,c⟩:=Hs.1 h;exact⟨v,Uh.2 (.inl (Hs.2 ⟨⟨s.h0 v e,by rw[s.falls];exact a⟩,by rw[s.askEnd];exact b,fun f=>c (s.refused f)⟩)),Int.le_refl _⟩
 ·obtain⟨t,a,b,c,rfl⟩:=He.1 h;obtain⟨g4,g5⟩:=s.turned g j b;exact⟨_,Uh.2 (.inr (He.2 ⟨t,s.h5 t a,g4,by rw[s.limits];exact c,rfl⟩)),g5⟩
theorem dated(s:Gives x y k i)(d a:Int):Tr.dated y k i d a=Tr.dated x k i d a :=
 Dx fun v=>by
  rw[List.mem_cons,List.mem_cons,Ug,Ug];simp only[s.older]
theorem noLess(s:Gives x y k i)(b:Ok x)(c:Ok y){d:Int}(h:0<=dateOn x k i d):0<=dateOn y k i d/\dateOn y k i d<=dateOn x k i d:=by
 refine leastOr_more (Dk b) (Dk c) (fun v hv=>?_) h;obtain⟨a,e,rfl⟩:=List.mem_map.1 hv;obtain⟨w,hw,hle⟩:=s.held b c e;exact⟨_,List.mem_map.2 ⟨w,hw,rfl⟩,by rw[s.dated];exact dated_mono hle⟩
end Gives
namespace Takes
variable {x y:TF} {k i:Int}
end Takes
end
section
theorem about_kind{e:Ev}{K k i:Int}(h:about e K k i=true):e.kind=K:=by
 unfold about at h;simp at h;exact h.1
theorem early_kind{x:TF}{e:Ev}(h:early x e=true):e.kind=4:=by
 unfold early at h;simp at h;exact h.1
end
section
structure Sp where
 first:Int
 last:Int
 deriving DecidableEq
def join(out:List Sp)(d e:Int):List Sp :=
 match out.getLast? with
 | some s=>if s.last=d-1 then out.dropLast++[⟨s.first,e-1⟩] else out++[⟨d,e-1⟩]
 | none=>out++[⟨d,e-1⟩]
def spansGo(p:Int->Bool):List Int->List Sp->List Sp
 | d::e::l,out=>spansGo p (e::l) (if p d then join out d e else out)
 | _,out=>out
end
section
def givesB(e:Ev):Bool:=e.kind==0||(e.kind==2||e.kind==5)
def givingGo:List Ev->Int->List Int
 | [],_=>[]
 | e::l,n=>if givesB e then n::givingGo l (n+1) else givingGo l (n+1)
def giving(x:TF):List Int:=givingGo x.events 0
def withGo(L:List Int):List Ev->Int->List Ev
 | [],_=>[]
 | e::l,n=>if !givesB e||L.contains n then e::withGo L l (n+1) else withGo L l (n+1)
def withE(x:TF)(L:List Int):TF:={ x with events:=withGo L x.events 0 }
def holdsB(x:TF)(k i d:Int)(L:List Int):Bool:=decide (0<=dateOn (withE x L) k i d)
variable {x:TF}{k i:Int}{L M:List Int}
theorem Gz{L:List Int}{e:Ev}:∀ {l:List Ev} {n:Int},e∈withGo L l n↔∃ j:Nat,l[j]?=some e/\(givesB e=false\/(n+(j:Int))∈L)
 | [],n=>by simp[withGo]
 | c::l,n=>by
  have b:=Gz (L:=L) (e:=e) (l:=l) (n:=n+1);have a:(∃ j:Nat,(c::l)[j]?=some e/\(givesB e=false\/(n+(j:Int))∈L))↔(c=e/\(givesB e=false\/n∈L))\/∃ j:Nat,l[j]?=some e/\(givesB e=false\/(n+1+(j:Int))∈L):=by
   constructor
   ·rintro⟨j,h1,h2⟩;cases j with
    | zero=>simp at h1;left;exact⟨h1,by simpa using h2⟩
    | succ j =>
     right;refine⟨j,by simpa using h1,?_⟩;rw[show n+1+(j:Int)=n+((j+1:Nat):Int) by omega];exact h2
   ·rintro(⟨h1,h2⟩|⟨j,h1,h2⟩)
    ·exact⟨0,by simp[h1],by simpa using h2⟩
    ·refine⟨j+1,by simpa using h1,?_⟩;rw[show n+((j+1:Nat):Int)=n+1+(j:Int) by omega];exact h2
  rw[a,withGo,<- b];by_cases hc:(!givesB c||L.contains n)=true
  ·rw[if_pos hc,List.mem_cons];constructor
   ·rintro(rfl|h)
    ·left;refine⟨rfl,?_⟩;simpa using hc
    ·exact .inr h
   ·rintro(⟨rfl,_⟩|h)
    ·exact .inl rfl
    ·exact .inr h
  ·rw[if_neg hc];constructor
   ·exact fun h=>.inr h
   ·rintro(⟨rfl,h⟩|h)
    ·exact absurd (by simpa using h) hc
    ·exact h
theorem Y7(v:Ok x)(L:List Int):Ok (withE x L):=fun e he=>by
 obtain⟨j,h,_⟩:=Gz.1 he;exact v e (List.mem_of_getElem? h)
theorem gives_kind{e:Ev}{K:Int}(h:about e K k i=true)(a:K≠0/\K≠2/\K≠5):givesB e=false:=by
 have:=about_kind h;unfold givesB;simp;omega
theorem with_gives(h:∀ n∈L,n∈M)(k i:Int):Gives (withE x L) (withE x M) k i:=by
 have up:∀ e,e∈(withE x L).events->e∈(withE x M).events:=fun e he=>by
  obtain⟨j,h1,h2⟩:=Gz.1 he;exact Gz.2 ⟨j,h1,h2.imp id (h _)⟩
 have eq:∀ e,givesB e=false->(e∈(withE x M).events↔e∈(withE x L).events):=fun e he =>
  ⟨fun hm=>by
   obtain⟨j,h1,_⟩:=Gz.1 hm;exact Gz.2 ⟨j,h1,.inl he⟩,up e⟩
 have a:∀ K,(K≠0/\K≠2/\K≠5)->∀ t,has (withE x M) k i K t↔has (withE x L) k i K t:=fun K b t =>
  ⟨fun ⟨e,h1,h2,h3⟩=>⟨e,(eq e (gives_kind h2 b)).1 h1,h2,h3⟩,fun ⟨e,h1,h2,h3⟩=>⟨e,up e h1,h2,h3⟩⟩
 refine⟨rfl,rfl,fun t ⟨e,h1,h2⟩=>⟨e,up e h1,h2⟩,a 1 (by decide),fun t ⟨e,h1,h2⟩=>⟨e,up e h1,h2⟩,a 3 (by decide),fun t ⟨e,h1,h2⟩=>⟨e,up e h1,h2⟩,fun t=>?_,fun t s=>?_⟩
 ·refine⟨fun ⟨e,h1,h2,h3⟩=>⟨e,(eq e ?_).1 h1,h2,h3⟩,fun ⟨e,h1,h2⟩=>⟨e,up e h1,h2⟩⟩;have:=early_kind h2;unfold givesB;simp;omega
 ·exact⟨fun ⟨e,h1,h2,h3⟩=>⟨e,(eq e (gives_kind h2 (by decide))).1 h1,h2,h3⟩,fun ⟨e,h1,h2⟩=>⟨e,up e h1,h2⟩⟩
theorem holds_more(v:Ok x)(h:∀ n∈L,n∈M){d:Int}(a:holdsB x k i d L=true):holdsB x k i d M=true:=by
 unfold holdsB at *;rw[decide_eq_true_eq] at *;exact((with_gives h k i).noLess (Y7 v L) (Y7 v M) a).1
theorem Du{m:Int}:∀ {l:List Ev} {n:Int},m∈givingGo l n↔∃ (j:Nat) (e:Ev),l[j]?=some e/\givesB e=true/\m=n+(j:Int)
 | [],n=>by simp[givingGo]
 | c::l,n=>by
  have b:=Du (m:=m) (l:=l) (n:=n+1);have a:(∃ (j:Nat) (e:Ev),(c::l)[j]?=some e/\givesB e=true/\m=n+(j:Int))↔(givesB c=true/\m=n)\/∃ (j:Nat) (e:Ev),l[j]?=some e/\givesB e=true/\m=n+1+(j:Int):=by
   constructor
   ·rintro⟨j,e,h1,h2,h3⟩;cases j with
    | zero=>simp at h1;subst h1;exact .inl ⟨h2,by simpa using h3⟩
    | succ j=>exact .inr ⟨j,e,by simpa using h1,h2,by omega⟩
   ·rintro(⟨h1,h2⟩|⟨j,e,h1,h2,h3⟩)
    ·exact⟨0,c,rfl,h1,by simpa using h2⟩
    ·exact⟨j+1,e,by simpa using h1,h2,by omega⟩
  rw[a,givingGo,<- b];by_cases hc:givesB c=true
  ·rw[if_pos hc,List.mem_cons];simp[hc]
  ·rw[if_neg hc];simp[hc]
theorem with_all(x:TF):withE x (giving x)=x:=by
 have key:∀ (l:List Ev) (n:Int) (L:List Int),(∀ (j:Nat) e,l[j]?=some e->givesB e=true->(n+(j:Int))∈L)->withGo L l n=l:=by
  intro l
  induction l with
  | nil=>intro n L _;rfl
  | cons c l b =>
   intro n L h;rw[withGo,if_pos,b]
   ·intro j e h1 h2;rw[show n+1+(j:Int)=n+((j+1:Nat):Int) by omega];exact h (j+1) e (by simpa using h1) h2
   ·cases a:givesB c with
    | false=>rfl
    | true =>
     have:=h 0 c rfl a;simpa using this
 unfold withE;have:=key x.events 0 (giving x) fun j e h1 h2=>Du.2 ⟨j,e,h1,h2,rfl⟩;rw[this]
theorem Gl:∀ (l:List Ev) (n:Int),(givingGo l n).Pairwise (·<·)
 | [],_=>.nil
 | c::l,n=>by
  rw[givingGo];have a:=Gl l (n+1);split
  ·refine List.pairwise_cons.2 ⟨fun m hm=>?_,a⟩;obtain⟨j,e,_,_,h3⟩:=Du.1 hm;omega
  ·exact a
end
section
def inB(n a b:Int):Bool:=decide (a<=n)&&decide (n<=b)
def dayB(n:Int):Bool:=inB n 0 9999
def firstT{α:Type}(f:Nat->α->Int):Nat->List α->Int
 | _,[]=>0
 | i,x::l=>if f i x≠0 then f i x else firstT f (i+1) l
variable {x:TF}
theorem H0{α:Type}{f:Nat->α->Int}:∀ {l:List α} {i:Nat},firstT f i l=0↔∀ (j:Nat) x,l[j]?=some x->f (i+j) x=0
 | [],i=>by simp[firstT]
 | y::l,i=>by
  rw[firstT];by_cases h:f i y≠0
  ·rw[if_pos h];exact⟨fun h1=>absurd h1 h,fun h1=>absurd (h1 0 y rfl) h⟩
  ·rw[if_neg h,H0];constructor
   ·intro h1 j x a;cases j with
    | zero=>simp at a;subst a;simpa using h
    | succ j=>rw[show i+(j+1)=i+1+j by omega];exact h1 j x (by simpa using a)
   ·intro h1 j x a;rw[show i+1+j=i+(j+1) by omega];exact h1 (j+1) x (by simpa using a)
def stepT(l:List Int)(below:Int)(i:Nat)(n:Int):Int:=if inB n 0 (below-1)=false then 6 else if 0<i/\n<=l.getD (i-1) 0 then 7 else 0
def itemsT(l:List Int)(below:Int):Int:=firstT (stepT l below) 0 l
def eventT(x:TF)(e:Ev):Int :=
 if (inB e.kind 0 6&&(dayB e.day&&dayB e.since))=false then 1
 else if inB e.land 0 (x.lands-1)=false then 6
 else if itemsT e.items x.items≠0 then itemsT e.items x.items
 else if (e.kind=4/\e.land≠0)\/(e.kind≠4/\e.kind≠6/\e.since≠0) then 1
 else if e.since>e.day then 7 else 0
def checkT(x:TF):Int :=
 if (inB x.items 0 5&&(inB x.lands 1 3&&(dayB x.start&&(dayB x.depend&&(dayB x.refuse&&dayB x.turn)))))=false then 1
 else if 10<x.events.length then 2 else firstT (fun _ e=>eventT x e) 0 x.events
theorem Zq(h:checkT x=0):(0<=x.items/\x.items<=5)/\(1<=x.lands/\x.lands<=3)/\(0<=x.start/\x.start<=9999)/\(0<=x.depend/\x.depend<=9999)/\(0<=x.refuse/\x.refuse<=9999)/\(0<=x.turn/\x.turn<=9999)/\x.events.length<=10:=by
 unfold checkT at h;split at h
 ·cases h
 ·rename_i h1;split at h
  ·cases h
  ·rename_i h2;simp[inB,dayB]at h1;omega
theorem H4(h:checkT x=0):∀ e∈x.events,eventT x e=0:=by
 intro e he;obtain⟨j,a⟩:=List.mem_iff_getElem?.1 he;unfold checkT at h;split at h
 ·cases h
 ·split at h
  ·cases h
  ·exact H0.1 h j e a
structure EventOk(x:TF)(e:Ev):Prop where
 kind:0<=e.kind/\e.kind<=6
 day:0<=e.day/\e.day<=9999
 since:0<=e.since/\e.since<=e.day
 land:0<=e.land/\e.land<x.lands
 items:itemsT e.items x.items=0
 fall:e.kind=4->e.land=0
 date:e.kind≠4->e.kind≠6->e.since=0
theorem Ys{e:Ev}:eventT x e=0↔EventOk x e:=by
 unfold eventT;constructor
 ·intro h;split at h
  ·cases h
  ·rename_i h1;split at h
   ·cases h
   ·rename_i h2;split at h
    ·rename_i h3;exact absurd h h3
    ·rename_i h3;split at h
     ·cases h
     ·rename_i j;split at h
      ·cases h
      ·rename_i h5;simp[inB,dayB]at h1 h2;simp only[ne_eq,Decidable.not_not]at h3;exact⟨by omega,by omega,by omega,by omega,h3,by omega,by omega⟩
 ·intro h;obtain⟨a,b,c,d,i,f,g⟩:=h;rw[if_neg (by simp[inB,dayB];omega),if_neg (by simp[inB];omega),if_neg (by simp[i]),if_neg (by omega),if_neg (by omega)]
theorem check_ok(h:checkT x=0):Ok x:=fun e he=>by
 have:=Ys.1 (H4 h e he);obtain⟨_,b,c,_⟩:=this;omega
theorem items_ok{l:List Int}{b:Int}(h:itemsT l b=0):(∀ v∈l,0<=v/\v<b)/\l.Pairwise (·<·):=by
 have h':=H0.1 h;have c:∀ v∈l,0<=v/\v<b:=by
  intro v hv;obtain⟨j,d⟩:=List.mem_iff_getElem?.1 hv;have:=h' j v d;unfold stepT at this;split at this
  ·cases this
  ·rename_i h1;simp[inB]at h1;omega
 refine⟨c,?_⟩;have step:∀ i (a:i+1<l.length),l[i]'(by omega)<l[i+1]:=by
  intro i a;have:=h' (i+1) l[i+1] (List.getElem?_eq_getElem a);unfold stepT at this;split at this
  ·cases this
  ·split at this
   ·cases this
   ·rename_i h3;have e:l.getD (0+(i+1)-1) 0=l[i]'(by omega):=by
     rw[show 0+(i+1)-1=i by omega];simp[List.getD,List.getElem?_eq_getElem (show i<l.length by omega)]
    rw[e]at h3;apply Int.not_le.1;exact fun f=>h3 ⟨by omega,f⟩
 rw[List.pairwise_iff_getElem];intro i j a d g
 induction j with
 | zero=>omega
 | succ j k =>
  have h1:=step j d;by_cases e:i=j
  ·subst e;exact h1
  ·have:=k (by omega) (by omega);omega
end
section
theorem sorted_one:∀ {l m:List Int},l.Pairwise (·<·)->m.Pairwise (·<·)->(∀ v,v∈l↔v∈m)->l=m
 | [],[],_,_,_=>rfl
 | [],b::m,_,_,h=>by simpa using (h b).2 (by simp)
 | a::l,[],_,_,h=>by simpa using (h a).1 (by simp)
 | a::l,b::m,i,hm,h=>by
  have f:=List.pairwise_cons.1 i;have g:=List.pairwise_cons.1 hm;have d:a=b:=by
   rcases List.mem_cons.1 ((h a).1 (by simp)) with e|e
   ·exact e
   ·rcases List.mem_cons.1 ((h b).2 (by simp)) with c|c
    ·exact c.symm
    ·have:=g.1 a e;have:=f.1 b c;omega
  subst d;congr 1;refine sorted_one f.2 g.2 fun v=>?_;constructor
  ·intro hv;rcases List.mem_cons.1 ((h v).1 (List.mem_cons_of_mem _ hv)) with e|e
   ·have:=f.1 v hv;omega
   ·exact e
  ·intro hv;rcases List.mem_cons.1 ((h v).2 (List.mem_cons_of_mem _ hv)) with e|e
   ·have:=g.1 v hv;omega
   ·exact e
structure IsDays(x:TF)(l:List Int):Prop where
 up:l.Pairwise (·<·)
 mem:∀ v,v∈l↔v=0\/v=10000\/∃ e∈x.events,e.day=v
theorem IsDays.one{x:TF}{l m:List Int}(a:IsDays x l)(b:IsDays x m):l=m:=sorted_one a.up b.up fun v=>by rw[a.mem,b.mem]
def spansT(x:TF)(k i:Int)(l:List Int):List Sp:=spansGo (fun d=>decide (0<=dateOn x k i d)) l []
end
section
def cmpI(x y:Int):Int:=if x<y then -1 else if x>y then 1 else 0
def cmpL:List Int->List Int->Int
 | [],[]=>0
 | [],_::_=>-1
 | _::_,[]=>1
 | x::xs,y::ys=>if cmpI x y≠0 then cmpI x y else cmpL xs ys
def fewerF(a b:List Int):Int:=if a.length≠b.length then (a.length:Int)-b.length else cmpL a b
variable {a b l m:List Int}
theorem cmpI_neg(x y:Int):cmpI y x = - cmpI x y:=by unfold cmpI;repeat' split<;>omega
theorem cmpI_zero{x y:Int}:cmpI x y=0↔x=y:=by unfold cmpI;repeat' split<;>omega
theorem cmpL_neg:∀ a b:List Int,cmpL b a = - cmpL a b:=by
 intro a
 induction a with
 | nil=>intro b;cases b<;>rfl
 | cons x a c =>
  intro b;cases b with
  | nil=>rfl
  | cons y b =>
   simp only[cmpL];rw[cmpI_neg x y,c b];by_cases e:cmpI x y=0
   ·simp[e]
   ·rw[if_pos (by omega),if_pos e]
theorem cmpL_trans:∀ a b c:List Int,cmpL a b<=0->cmpL b c<=0->cmpL a c<=0:=by
 intro a
 induction a with
 | nil=>intro b c _ _;cases c<;>simp[cmpL]
 | cons x a h =>
  intro b c h1 h2;cases b with
  | nil=>simp[cmpL]at h1
  | cons y b =>
   cases c with
   | nil=>simp[cmpL]at h2
   | cons z c =>
    simp only[cmpL]at h1 h2 ⊢;have:=h b c;unfold cmpI at h1 h2 ⊢;by_cases f:x<y
    ·by_cases d:y<z
     ·rw[if_pos (by rw[if_pos (show x<z by omega)];omega),if_pos (show x<z by omega)];omega
     ·by_cases e:y=z
      ·subst e;simp[f]
      ·have:y>z:=by omega
       simp[d,this]at h2
    ·by_cases g:x=y
     ·subst g;simp at h1;by_cases d:x<z
      ·simp[d]
      ·by_cases e:x=z
       ·subst e;simp at h2 ⊢;exact this h1 h2
       ·have:x>z:=by omega
        simp[d,this]at h2
     ·have:x>y:=by omega
      simp[f,this]at h1
theorem Ux(a b:List Int):fewerF b a = - fewerF a b:=by
 unfold fewerF;by_cases e:a.length=b.length
 ·rw[if_neg (by omega),if_neg (by omega),cmpL_neg a b]
 ·rw[if_pos (by omega),if_pos (by omega)];omega
theorem H1{c:List Int}(h1:fewerF a b<=0)(h2:fewerF b c<=0):fewerF a c<=0:=by
 unfold fewerF at *;by_cases e:a.length=b.length
 ·rw[if_neg (by omega)]at h1;by_cases d:b.length=c.length
  ·rw[if_neg (by omega)]at h2;rw[if_neg (by omega)];exact cmpL_trans a b c h1 h2
  ·rw[if_pos (by omega)]at h2;rw[if_pos (by omega)];omega
 ·rw[if_pos (by omega)]at h1;by_cases d:b.length=c.length
  ·rw[if_pos (by omega)];omega
  ·rw[if_pos (by omega)]at h2;rw[if_pos (by omega)];omega
theorem fewer_self(a:List Int):fewerF a a<=0:=by
 have:=Ux a a;omega
def tailsS:List Int->List (List Int)
 | []=>[]
 | x::r=>(([]:List Int)::tailsS r).map (x::·)++tailsS r
def subl(l:List Int):List (List Int):=[]::tailsS l
theorem mem_subl(h:m.Sublist l):m∈subl l:=by
 induction h with
 | slnil=>simp[subl]
 | @cons b d a h c =>
  unfold subl at c ⊢;rw[tailsS];rcases List.mem_cons.1 c with rfl|c
  ·simp
  ·exact List.mem_cons_of_mem _ (List.mem_append_right _ c)
 | @cons_cons b d a h c =>
  unfold subl at c ⊢;rw[tailsS];exact List.mem_cons_of_mem _ (List.mem_append_left _ (List.mem_map.2 ⟨b,c,rfl⟩))
theorem subl_sub:∀ {l m:List Int},m∈subl l->m.Sublist l:=by
 intro l
 induction l with
 | nil=>intro m h;simp[subl,tailsS]at h;subst h;exact List.Sublist.slnil
 | cons x l a =>
  intro m h;unfold subl at h a;rw[tailsS]at h;simp only[List.mem_cons,List.mem_append,List.mem_map]at h;rcases h with rfl|⟨w,hw,rfl⟩|h
  ·exact List.nil_sublist _
  ·exact(a (by simpa using hw)).cons_cons x
  ·exact(a (by simp[h])).cons x
theorem bits_of(p:Nat->Bool):∀ n,∃ j,j<2^n/\∀ b,b<n->j.testBit b=p b:=by
 intro n
 induction n with
 | zero=>exact⟨0,by omega,fun b hb=>by omega⟩
 | succ n f =>
  obtain⟨j,d,hb⟩:=f;by_cases e:p n=true
  ·refine⟨2^n+j,by rw[Nat.pow_succ];omega,fun b c=>?_⟩;by_cases a:b=n
   ·subst a;rw[Nat.testBit_two_pow_add_eq,Nat.testBit_lt_two_pow d,e];rfl
   ·rw[Nat.testBit_two_pow_add_gt (by omega)];exact hb b (by omega)
  ·refine⟨j,by rw[Nat.pow_succ];omega,fun b c=>?_⟩;by_cases a:b=n
   ·subst a;rw[Nat.testBit_lt_two_pow d];simpa using e
   ·exact hb b (by omega)
theorem filter_sub(h:m.Sublist l):l.Nodup->l.filter (fun x=>decide (x∈m))=m:=by
 induction h with
 | slnil=>intro _;rfl
 | @cons c d a h e =>
  intro f;have b:=List.nodup_cons.1 f;have:a∉c:=fun hm=>b.1 (h.subset hm);rw[List.filter_cons,if_neg (by simp[this])];exact e b.2
 | @cons_cons c d a h e =>
  intro f;have b:=List.nodup_cons.1 f;rw[List.filter_cons,if_pos (by simp)];congr 1;rw[<- e b.2];refine List.filter_congr fun x i=>?_;have g:x≠a:=by rintro rfl;exact b.1 i
  rw[e b.2];simp[g]
theorem cmpL_self:∀ l:List Int,cmpL l l=0
 | []=>rfl
 | x::l=>by rw[cmpL,if_neg (by simp[cmpI]),cmpL_self l]
theorem cmpL_eq:∀ {a b:List Int},cmpL a b=0->a=b
 | [],[],_=>rfl
 | [],_::_,h=>by simp[cmpL]at h
 | _::_,[],h=>by simp[cmpL]at h
 | x::a,y::b,h=>by
  rw[cmpL]at h;split at h
  ·rename_i h1;exact absurd h h1
  ·rename_i h1;have e:x=y:=cmpI_zero.1 (by simpa using h1);rw[e,cmpL_eq h]
theorem fewer_eq(h1:fewerF a b<=0)(h2:fewerF b a<=0):a=b:=by
 rw[Ux a b]at h2;have h0:fewerF a b=0:=by omega
 unfold fewerF at h0;split at h0
 ·rename_i h;omega
 ·exact cmpL_eq h0
theorem subl_sorted:∀ {l:List Int},l.Pairwise (·<·)->(subl l).Pairwise fun a b=>cmpL a b<0:=by
 intro l
 induction l with
 | nil=>intro _;simp[subl,tailsS]
 | cons x l c =>
  intro h;obtain⟨j,i⟩:=List.pairwise_cons.1 h;have c:=c i;have d:∀ b∈tailsS l,∃ y r,b=y::r/\y∈l:=by
   have key:∀ (l:List Int),∀ b∈tailsS l,∃ y r,b=y::r/\y∈l:=by
    intro l
    induction l with
    | nil=>intro b hb;simp[tailsS]at hb
    | cons z l c =>
     intro b hb;rw[tailsS]at hb;simp only[List.mem_append,List.mem_map]at hb;rcases hb with⟨w,_,rfl⟩|hb
     ·exact⟨z,w,rfl,by simp⟩
     ·obtain⟨y,r,h1,h2⟩:=c b hb;exact⟨y,r,h1,by simp[h2]⟩
   exact key l
  unfold subl at c ⊢;rw[tailsS];refine List.pairwise_cons.2 ⟨fun b hb=>?_,List.pairwise_append.2 ⟨?_,(List.pairwise_cons.1 c).2,fun a g b hb=>?_⟩⟩
  ·have:∃ y r,b=y::r:=by
    rcases List.mem_append.1 hb with hb|hb
    ·obtain⟨w,_,rfl⟩:=List.mem_map.1 hb;exact⟨x,w,rfl⟩
    ·obtain⟨y,r,h1,_⟩:=d b hb;exact⟨y,r,h1⟩
   obtain⟨y,r,rfl⟩:=this;simp[cmpL]
  ·refine List.Pairwise.map _ (fun a b e=>?_) c;rw[cmpL,if_neg (by simp[cmpI])];exact e
  ·obtain⟨w,_,rfl⟩:=List.mem_map.1 g;obtain⟨y,r,rfl,k⟩:=d b hb;have f:=j y k;have:cmpI x y = -1:=by unfold cmpI;rw[if_pos f]
   rw[cmpL,this,if_pos (by omega)];omega
def scanS(ok:List Int->Bool):List Int->List (List Int)->List Int
 | best,[]=>best
 | best,l::ls=>scanS ok (if decide (l.length<best.length)&&ok l then l else best) ls
theorem scan_spec(ok:List Int->Bool):∀ (ls:List (List Int)) (f:List Int),(∀ l∈ls,l.length=f.length->cmpL f l<=0)->ls.Pairwise (fun a b=>cmpL a b<0)->ok f=true ->
  ok (scanS ok f ls)=true/\(scanS ok f ls=f\/scanS ok f ls∈ls)/\fewerF (scanS ok f ls) f<=0/\∀ l∈ls,ok l=true->fewerF (scanS ok f ls) l<=0:=by
 intro ls
 induction ls with
 | nil=>intro f _ _ hb;exact⟨hb,.inl rfl,fewer_self _,fun l o=>by simp at o⟩
 | cons l ls n =>
  intro f h1 h2 hb;obtain⟨h3,m⟩:=List.pairwise_cons.1 h2;rw[scanS];by_cases e:(decide (l.length<f.length)&&ok l)=true
  ·rw[if_pos e];simp only[Bool.and_eq_true,decide_eq_true_eq]at e;obtain⟨a,b,c,d⟩:=n l (fun h g _=>Int.le_of_lt (h3 h g)) m e.2;have j:fewerF l f<=0:=by unfold fewerF;rw[if_pos (by omega)];omega
   refine⟨a,.inr ?_,H1 c j,fun h g i=>?_⟩
   ·rcases b with b|b
    ·rw[b];simp
    ·simp[b]
   ·rcases List.mem_cons.1 g with rfl|g
    ·exact c
    ·exact d h g i
  ·rw[if_neg e];obtain⟨a,b,c,d⟩:=n f (fun h g=>h1 h (by simp[g])) m hb;refine⟨a,?_,c,fun h g i=>?_⟩
   ·rcases b with b|b
    ·exact .inl b
    ·exact .inr (by simp[b])
   ·rcases List.mem_cons.1 g with rfl|g
    ·have hlen:f.length<=h.length:=by
      apply Nat.le_of_not_lt;intro k;exact e (by simp[k,i])
     refine H1 c ?_;unfold fewerF;by_cases he:f.length=h.length
     ·rw[if_neg (by omega)];exact h1 h (by simp) he.symm
     ·rw[if_pos (by omega)];omega
    ·exact d h g i
end
section
def needT(x:TF)(k i d:Int):List Int:=scanS (holdsB x k i d) (giving x) (subl (giving x))
variable {x:TF}{k i d:Int}{l:List Int}
theorem holds_all(x:TF)(k i d:Int):holdsB x k i d (giving x)=decide (0<=dateOn x k i d):=by
 unfold holdsB;rw[with_all]
theorem need_spec(h:0<=dateOn x k i d):holdsB x k i d (needT x k i d)=true/\(needT x k i d).Sublist (giving x)/\∀ l,l.Sublist (giving x)->holdsB x k i d l=true->fewerF (needT x k i d) l<=0:=by
 have m:(giving x).Pairwise (·<·):=Gl x.events 0;have f:holdsB x k i d (giving x)=true:=by rw[holds_all,decide_eq_true h]
 obtain⟨a,b,_,c⟩:=scan_spec (holdsB x k i d) (subl (giving x)) (giving x) (fun l g e=>by
  have:=(subl_sub g).eq_of_length e;rw[this,cmpL_self];exact Int.le_refl _) (subl_sorted m) f
 refine⟨a,?_,fun l g j=>c l (mem_subl g) j⟩;unfold needT;rcases b with b|b
 ·rw[b];exact List.Sublist.refl _
 ·exact subl_sub b
theorem need_one(h:0<=dateOn x k i d)(h1:l.Sublist (giving x))(h2:holdsB x k i d l=true)(h3:∀ m,m.Sublist (giving x)->holdsB x k i d m=true->fewerF l m<=0):l=needT x k i d:=by
 obtain⟨a,b,c⟩:=need_spec h;exact fewer_eq (h3 _ b a) (c l h1 h2)
theorem none_holds(v:Ok x)(h:¬ 0<=dateOn x k i d)(a:l.Sublist (giving x)):holdsB x k i d l=false:=by
 cases hb:holdsB x k i d l with
 | false=>rfl
 | true =>
  have:=holds_more v (M:=giving x) (fun n b=>a.subset b) hb;rw[holds_all]at this;exact absurd (by simpa using this) h
end
end Go.TM.Tr
namespace Go.TM
section
variable {h₀ h h':Cells}{p:Option Addr}{k n c:Nat}{vs:List Value}{el:TypeId}
theorem OwnRow.le{el:TypeId}{k:Nat}{h h':Cells}{p:Option Addr}{n c:Nat}{vs:List Value}(g:h.le h')(o:OwnRow el k h p n c vs):OwnRow el k h' p n c vs:=by
 obtain⟨h1,h2|⟨r,cs,a,b,d,e,f⟩⟩:=o
 ·exact⟨h1,.inl h2⟩
 ·exact⟨h1,.inr ⟨r,cs,a,g _ _ b,d,e,f⟩⟩
def NewIn(h₀:Cells)(p:Option Addr):Prop:=∀ a,p=some a->h₀ a.block=none
theorem NewIn.none{h₀:Cells}:NewIn h₀ none:=fun a h=>by cases h
theorem Hl{d:Option Addr}(hle:h₀.le h)(f:NewIn h₀ p)(g:KeptBut p h h')(c:d=p\/∃ r,d=some ⟨r,0,none⟩/\h r=none):h₀.le h'/\NewIn h₀ d:=by
 refine⟨fun r x hr=>g r x (hle r x hr) fun a b e=>?_,?_⟩
 ·have:=f a b;rw[e,hr]at this;cases this
 ·rcases c with rfl|⟨r,rfl,hr⟩
  ·exact f
  ·intro a b;cases b;cases i:h₀ r with
   | none=>rfl
   | some x=>rw[hle _ _ i]at hr;cases hr
inductive Rows{α:Type}(Enc:α->List Value->Prop):List Value->List α->Prop
 | nil:Rows Enc [] []
 | snoc {vs:List Value} {l:List α} {x:α} {ws:List Value}:Rows Enc vs l->Enc x ws->Rows Enc (vs++ws) (l++[x])
theorem Rows.len{α:Type}{Enc:α->List Value->Prop}(a:∀ x ws,Enc x ws->ws.length=k){l:List α}(r:Rows Enc vs l):vs.length=l.length*k:=by
 induction r with
 | nil=>simp
 | snoc r he b=>simp[b,a _ _ he,Nat.add_mul]
theorem Rows.at{α:Type}{Enc:α->List Value->Prop}{k:Nat}(f:∀ x ws,Enc x ws->ws.length=k){vs:List Value}{l:List α}(r:Rows Enc vs l):∀ (i:Nat) x,l[i]?=some x->∃ ws,Enc x ws/\∀ (j:Nat) w,ws[j]?=some w->vs[i*k+j]?=some w:=by
 induction r with
 | nil=>intro i x h;simp at h
 | snoc r he g =>
  rename_i vs l y ws;intro i x a;have hlen:=r.len f;by_cases b:i<l.length
  ·rw[List.getElem?_append_left b]at a;obtain⟨us,h1,h2⟩:=g i x a;refine⟨us,h1,fun j w c=>?_⟩;have e:j<us.length:=(List.getElem?_eq_some_iff.1 c).1;rw[f _ _ h1]at e;have:i*k+j<vs.length:=by
    rw[hlen]
    calc i*k+j<i*k+k:=by omega
     _=(i+1)*k:=by rw[Nat.add_mul];omega
     _<=l.length*k:=Nat.mul_le_mul_right _ b
   rw[List.getElem?_append_left this];exact h2 j w c
  ·have d:i=l.length:=by
    have:=(List.getElem?_eq_some_iff.1 a).1;simp at this;omega
   subst d;rw[List.getElem?_append_right (Nat.le_refl _),Nat.sub_self]at a;simp at a;subst a;refine⟨ws,he,fun j w c=>?_⟩;rw[List.getElem?_append_right (by omega),hlen];rw[show l.length*k+j-l.length*k=j by omega];exact c
theorem Rows.sl{α:Type}{E:Cells->Addr->α->Prop}{Enc:α->List Value->Prop}{l:List α}(e:∀ x ws,Enc x ws->ws.length=k)(d:0<k)(o:∀ a x ws,Enc x ws->(∀ (j:Nat) w,ws[j]?=some w->h'.cell? (a.add j)=some w)->E h' a x)
 (own:OwnRow el k h' p n c vs)(r:Rows Enc vs l)(hb:l.length<4611686018427387904):Sl E k h' p n l:=by
 have hlen:=r.len e;obtain⟨h1,h2⟩:=own;have f:n=l.length:=Nat.eq_of_mul_eq_mul_right d (h1.symm.trans hlen);refine⟨f,hb,fun i x g=>?_⟩;obtain⟨ws,h,m⟩:=r.at e i x g;rcases h2 with⟨rfl,rfl,rfl⟩|⟨b,cs,rfl,hr,q,t,hv⟩
 ·have:l=[]:=List.eq_nil_of_length_eq_zero f.symm;subst this;simp at g
 ·refine⟨_,rfl,o _ _ _ h fun j w s=>?_⟩;rw[Qa,Qa,Nat.zero_add];simp only[Cells.cell?,hr,Option.isSome_none,Bool.false_eq_true,if_false];exact hv _ _ (m j w s)
def IntEnc(x:Int)(ws:List Value):Prop:=ws=[.int .i64 x]
theorem IntEnc.len:∀ x ws,IntEnc x ws->ws.length=1:=by rintro x _ rfl;rfl
theorem IntEnc.e:∀ a x ws,IntEnc x ws->(∀ (j:Nat) w,ws[j]?=some w->h'.cell? (a.add j)=some w)->IntE h' a x:=by
 rintro a x _ rfl hc;exact hc 0 _ rfl
structure Growing{α:Type}(Enc:α->List Value->Prop)(el:TypeId)(k:Nat)(h₀ h:Cells)(p:Option Addr)(n c:Nat)(l:List α):Prop where
 row:∃ vs,OwnRow el k h p n c vs/\Rows Enc vs l
 new:NewIn h₀ p
theorem Growing.nil{α:Type}{Enc:α->List Value->Prop}{el:TypeId}{k:Nat}{h₀ h:Cells}:Growing Enc el k h₀ h none 0 0 []:=⟨⟨[],OwnRow.nil,.nil⟩,NewIn.none⟩
theorem Growing.le{α:Type}{Enc:α->List Value->Prop}{el:TypeId}{k:Nat}{h₀ h h':Cells}{p:Option Addr}{n c:Nat}{l:List α}(a:h.le h')(g:Growing Enc el k h₀ h p n c l):Growing Enc el k h₀ h' p n c l:=by
 obtain⟨vs,h1,h2⟩:=g.row;exact⟨⟨vs,h1.le a,h2⟩,g.new⟩
theorem Growing.count{α:Type}{Enc:α->List Value->Prop}{l:List α}(b:∀ x ws,Enc x ws->ws.length=k)(a:0<k)(g:Growing Enc el k h₀ h p n c l):n=l.length:=by
 obtain⟨vs,h1,h2⟩:=g.row;exact Nat.eq_of_mul_eq_mul_right a (h1.1.symm.trans (h2.len b))
theorem Growing.sl{α:Type}{E:Cells->Addr->α->Prop}{Enc:α->List Value->Prop}{el:TypeId}{k:Nat}{h₀ h:Cells}{p:Option Addr}{n c:Nat}{l:List α}(e:∀ x ws,Enc x ws->ws.length=k)(b:0<k)(d:∀ a x ws,Enc x ws->(∀ (j:Nat) w,ws[j]?=some w->h.cell? (a.add j)=some w)->E h a x)
 (g:Growing Enc el k h₀ h p n c l)(hb:l.length<4611686018427387904):Sl E k h p n l:=by
 obtain⟨vs,h1,h2⟩:=g.row;exact h2.sl e b d h1 hb
section
variable {P:Program} {X:XP} {Q:Leaf->LH->Prop}
theorem t_grow{α:Type}{Enc:α->List Value->Prop}{h h₀:LH}{k:Value->T}{ts:Array TypeId}{ty sT xT el xe:TypeId}{s by_:Nat}{z:Value}{p:Option Addr}{n c mc:Nat}{b:Addr}{l:List α}{x:α}{ws:List Value}(h0:ts[0]?=some sT)(h1:ts[1]?=some xT)(hu:P.underlying sT=some (.slice el))(u:P.underlying xT=some (.slice xe))
 (f:(P.info? el).map (fun i=>(i.size,i.bytes,i.zero))=some (s,by_,some z))(e:z.cells.size=s)(hb:by_<=1024)(t:n+1<=2^30)(g:Growing Enc el s h₀.get h.get p n c l)(hle:h₀.le h)(he:Enc x ws)(q:ws.length=s)(hc:∀ (j:Nat) v,ws[j]?=some v->h.get.cell? (b.add j)=some v)(one:∀ v∈ws,isOne v=true)
 (m:∀ d c' h',h₀.le h'->(∀ r y,(∀ a,p=some a->a.block≠r)->h.get r=some y->h'.get r=some y)->Growing Enc el s h₀.get h'.get d (n+1) c' (l++[x])->(k (.slice d (n+1) c')).wp X P Q h'):(T.sem false (Builtin.append_ ts ty #[.slice p n c,.slice (some b) 1 mc]) k).wp X P Q h:=by
 obtain⟨vs,o,r⟩:=g.row;refine t_append h0 h1 hu u f e hb t o (by rw[q,Nat.one_mul]) hc one (by omega) fun d c' h' a b c=>?_;obtain⟨A,B⟩:=Hl hle.1 g.new b c;refine m d c' _ ⟨A,hle.2⟩ (fun r y hr w=>b r y w hr) ⟨⟨vs++ws,a,.snoc r he⟩,B⟩
end
end
section
variable {P:Program}
variable {first args cap hargs:Array Value}{s:Script}{h:LH}{a k:Cells}{c:Nat}{v:Value}{last:Bool}{Q:Value->LH->Prop}
theorem spawn_wk{f:FuncId}{hc:Cells}(e:s≠[])(m:(first++args)++cap=hargs)(c:FWK XW P .deferred f hargs ⟨hc,[],[],s⟩ fun _ _=>False) :
  Wk P (G (baseOf P [deferOf (.func (.func f) first cap) args]) []) ⟨hc,[],[],s⟩:=by
 obtain⟨⟨fn,n,hb,b⟩,j⟩:=c;have hgo:=j false _ (wk_closed P) [baseOf P []] (.inr ⟨rfl,rfl⟩) (fun _ _ _ _ _ _ _ o=>o.elim) rfl e;have k:fn.body.isNone=false:=by cases h:fn.body<;>simp_all
 refine .step (N:=fun g h=>g=G (Frame.enter P f hargs .deferred) [baseOf P []]/\h=⟨hc,[],[],s⟩) e ?_ ?_
 ·intro w d;refine⟨_,w,#[],hc,?_,Tr.refl d,by simp,rfl,rfl⟩;have a:(callFunc f hargs).runT P w #[]=(.ok (.enter f hargs) w,#[]):=by
   show ((program).bind _).runT P w #[]=_;simp only[program,Sem.bind,Sem.runT,n,b,k,Bool.false_eq_true,if_false];rfl
  have h1:(callFunc f hargs).run P w=.ok (.enter f hargs) w:=by rw[<- Sem.runT_fst _ _ _ #[],a]
  have h2:(callFunc f hargs).events P w #[]=#[]:=by show ((callFunc f hargs).runT P w #[]).2=_;rw[a]
  have hinv:invoke (deferOf (.func (.func f) first cap) args).target (deferOf (.func (.func f) first cap) args).args=callFunc f hargs:=by rw[<- m];rfl
  have i:((deferOf (.func (.func f) first cap) args).target matches .nil)=false:=rfl;have l:∀ fr cs,callDeferred P fr cs none (deferOf (.func (.func f) first cap) args) w=.go (G (Frame.enter P f hargs .deferred) (fr::cs)) w (seen P fr.fn #[]):=by
   intro fr cs;unfold callDeferred;simp only[hinv,i,Bool.false_and,Bool.false_eq_true,if_false,a];rfl
  show unwind P false (baseOf P [deferOf (.func (.func f) first cap) args]) [] none w=_;unfold unwind;simp only[baseOf,deferOf];exact l _ _
 ·rintro _ _ ⟨rfl,rfl⟩;exact hgo
theorem spawnW{f:FuncId}{Q:LH->Prop}(F:Nat->Bool)(hc:Cells)(s:Script)(g:s≠[])(p:(first++args)++cap=hargs)(l:∀ r x,hc r=some x->x.1=false/\freezeC F h.get r=some x)
 (j:[]∉h.pend)(i:∀ y∈s,y.1∈h.chans)(c:FWK XW P .deferred f hargs ⟨hc,[],[],s⟩ fun _ _=>False)(n:Q { h with get:=freezeC F h.get,pend:=h.pend++[s] }):SpawnW XT P (.func (.func f) first cap) args h Q:=by
 intro main R o fr cs _ _ m k d q;obtain⟨rfl,_,h2,_,_⟩:=o.2;refine h2 fr cs (h.add k) (fun r=>F r&&(h.get r).isSome) hc _ s ⟨m⟩ ?_ g j i (spawn_wk g p c) ?_
 ·intro r x t;obtain⟨a,b⟩:=l r x t;refine⟨a,?_⟩;show freezeC _ (h.get.add k) r=_;rw[Ge];exact Qi b
 ·have e:freezeC (fun r=>F r&&(h.get r).isSome) (h.add k).get=(freezeC F h.get).add k:=Ge F h.get k;rw[e];refine q { h with get:=freezeC F h.get,pend:=h.pend++[s] } ?_ n;intro r;rcases d r with hr|hr
  ·left;simp only[freezeC,hr]
  ·exact .inr hr
theorem drop_add(b:k c=none):dropC (a.add k) c=(dropC a c).add k:=by
 funext r;unfold dropC Cells.add;by_cases e:r=c
 ·subst e;simp[b]
 ·simp[e]
theorem upd_add{x:Bool×Obj}:(a.add k).upd c x=(a.upd c x).add k:=by
 funext r;unfold Cells.upd Cells.add;by_cases e:r=c<;>simp[e]
theorem Disj.drop(d:Disj a k)(c:Nat):Disj (dropC a c) k:=by
 intro r;rcases d r with hr|hr
 ·left;unfold dropC;split
  ·rfl
  ·exact hr
 ·exact .inr hr
theorem SpawnW.opened{Q:LH->Prop}(b:[]∉h.pend)(c s:Nat)(i:h.get c=some (true,.chan 0 #[] false s s false))(hS:SpawnW XT P v args { h with get:=dropC h.get c,chans:=c::h.chans } Q):SpawnW XT P v args h Q:=by
 intro main R g fr cs hat a f k d j;have e:k c=none:=by
  rcases d c with h'|h'
  ·rw[i]at h';cases h'
  ·exact h'
 refine g.2.2.2.2.1 _ (h.add k) c s b (Qi i) ?_;have:=hS main R g fr cs hat a f k (d.drop c) j;unfold LH.add at this ⊢;simp only[drop_add e];exact this
theorem commW_recv{cases:Array CommCase}{shape:CommShape}(recv:∀ (k:Nat) (i:CommCase),cases[k]?=some i->∃ c z,i=rcase c z/\c∈h.chans)(some_:h.pend≠[])
 (heads:∀ s∈h.pend,∃ (c:Nat) (φ:Value->Cells->Prop) (q:Script) (k:Nat) (z:Value),s=(c,φ)::q/\cases[k]?=some (rcase c z))
 (m:∀ pre φ s post (k:Nat) c v hv z,h.pend=pre++((c,φ)::s)::post->cases[k]?=some (rcase c z)->Disj h.get hv->(∀ r x,hv r=some x->x.1=true)->φ v hv ->
   Q (commResult cases shape (k:Nat) v true) { h with get:=h.get.add hv,pend:=pre++cons' s post }):CommW XT P last cases shape h Q:=by
 intro main R n fr cs _ _ _ f k d o;obtain⟨rfl,h1,_,_,_⟩:=n.2;refine h1 fr cs cases shape (h.add k) ⟨f,recv,some_,heads⟩ ?_;intro pre φ s post j c v hv z p a l b g;have d1:Disj h.get hv:=l.of_add_left;have d2:Disj k hv:=Qx d l;have e:((h.get.add hv).add k)=((h.get.add k).add hv):=Q4 d2.symm;have:=o _ { h with get:=h.get.add hv,pend:=pre++cons' s post } (Disj.add d d2.symm) (m pre φ s post j c v hv z p a d1 b g);unfold LH.add at this;simp only[e]at this;exact this
theorem CommW.closed{cases:Array CommCase}{shape:CommShape}
 (o:CommW XT P last cases shape h fun v h'=>Q v h'\/∃ c∈h'.chans,h'.pend=[]/\∀ s,h'.get c=none->Q v { h' with get:=h'.get.upd c (true,.chan 0 #[] false s s false),chans:=h'.chans.filter (·≠c) }):CommW XT P last cases shape h Q:=by
 intro main R m fr cs hat f p j k d n;refine o main R m fr cs hat f p j k d ?_;rintro v h' l (i|⟨c,hc,q,i⟩)
 ·exact n v h' l i
 ·refine m.2.2.2.2.2 _ (h'.add k) c hc q ?_;intro a s;have b:h'.get c=none:=by
   cases t:h'.get c with
   | none=>rfl
   | some x=>rw[show (h'.add k).get c=some x from Qi t]at a;cases a
  have g:k c=none:=by
   have:=a;rw[show (h'.add k).get c=k c from Qk b]at this;exact this
  have d2:Disj (h'.get.upd c (true,.chan 0 #[] false s s false)) k:=by
   intro r;by_cases e:r=c
   ·right;rw[e];exact g
   ·rw[Qp _ _ e];exact l r
  have:=n v _ d2 (i s b);unfold LH.add at this ⊢;simp only[upd_add];exact this
theorem D4{z:Value}{φ:Value->Cells->Prop}{hv hr:Cells}(todo:h.todo=(c,φ)::s)(get:h.get=hv.add hr)(disj:Disj hv hr)(own:∀ r x,hv r=some x->x.1=true)
 (val:φ v hv)(n:s=[]->last=true)(j:s≠[]->Q undef { h with get:=hr,todo:=s }):CommW XW P last #[scase c v z] .send h Q:=by
 intro main R l fr cs hat b a g k d m;obtain⟨rfl,h1⟩:=l.2;have i:Sends P fr cs h c z v φ s hv hr:=⟨hat,g,todo,get,disj,own,val⟩
 exact h1 fr cs (h.add k) c z v φ s hv (hr.add k) b (i.frame d) (fun e=>a (n e)) fun f=>m undef { h with get:=hr,todo:=s } (i.rest d) (j f)
end
section
variable {P:Program} {X:XP} {Q:Leaf->LH->Prop} {h:LH}
variable {t el:TypeId}{s b:Nat}{z:Option Value}{K:Value->T}
theorem t_spawn{v:Value}{args:Array Value}{k:T}(a:SpawnW X P v args h fun h'=>k.wp X P Q h'):(T.spawn v args k).wp X P Q h:=a
theorem Y4{last:Bool}{cases:Array CommCase}{shape:CommShape}{k:Value->T}(hc:CommW X P last cases shape h fun v h'=>(k v).wp X P Q h'):(T.comm last cases shape k).wp X P Q h:=hc
theorem t_makeChan{d:ChanDir}(hu:P.underlying t=some (.chan d el))(c:(P.info? el).map (fun i=>(i.size,i.bytes,i.zero))=some (s,b,z))
 (f:∀ r,h.get r=none->(K (.chan (some r))).wp X P Q { h with get:=h.get.upd r (true,.chan 0 #[] false 0 0 false) }):(T.sem false (Instr.makeChan t (.int .i64 0)) K).wp X P Q h:=by
 obtain⟨inf,a,_,_,_⟩:=Z3 c;refine Jh (A:=fun v h'=>∃ r,h.get r=none/\v=.chan (some r)/\h'=h.get.upd r (true,.chan 0 #[] false 0 0 false)) ?_ (by rintro v h' ⟨r,hr,rfl,rfl⟩;exact f r hr);unfold Instr.makeChan;have e:IntKind.i64.max=9223372036854775807:=rfl;simp only[asInt,asIntOf,lwp_bind,Qg,Qd hu,Z1 a];rw[if_neg (by rw[e];omega)];rw[lwp_bind];intro r hr;exact⟨r,hr,rfl,rfl⟩
theorem t_build0(hu:P.underlying t=some (.slice el))(d:(P.info? el).map (fun i=>(i.size,i.bytes,i.zero))=some (s,b,z))
 (e:∀ r,h.get r=none->(K (.slice (some ⟨r,0,none⟩) 0 0)).wp X P Q { h with get:=h.get.upd r (true,.cells #[] el (0,0)) }):(T.sem false (Instr.buildSlice t 0 #[]) K).wp X P Q h:=by
 obtain⟨inf,a,_,_,_⟩:=Z3 d;refine Jh (A:=fun v h'=>∃ r,h.get r=none/\v=.slice (some ⟨r,0,none⟩) 0 0/\h'=h.get.upd r (true,.cells #[] el (0,0))) ?_ (by rintro v h' ⟨r,hr,rfl,rfl⟩;exact e r hr);unfold Instr.buildSlice;simp only[lwp_bind,Qd hu,Q2 a,Nat.zero_mul,Qg];rw[if_neg (by omega)];simp only[if_true,lwp_bind,Qg];have c:Instr.fill (fun i=>some (i*inf.size,inf.size)) (Array.map (fun x=>(#[]:Array Value)[x%(#[]:Array Value).size]!) (Array.range 0)) (#[]:Array (Nat×Value)).toList=some #[]:=by simp[Instr.fill]
 rw[c];simp only[lwp_bind];exact Kf fun r hr=>⟨r,hr,rfl,rfl⟩
end
section
theorem Gp(a:Addr)(x y:Nat):(a.add x).add y=a.add (x+y):=by
 unfold Addr.add;by_cases h1:x=0
 ·subst h1;simp
 ·by_cases h2:y=0
  ·subst h2;simp[h1]
  ·simp[h1,h2];omega
def ToldE{α:Type}(E:Cells->Addr->α->Prop)(Enc:α->List Value->Prop)(k:Nat)(h:Cells):Prop:=∀ a x,E h a x->∃ ws,Enc x ws/\ws.length=k/\(∀ (j:Nat) w,ws[j]?=some w->h.cell? (a.add j)=some w)/\∀ w∈ws,isOne w=true
theorem flat{α:Type}{E:Cells->Addr->α->Prop}{Enc:α->List Value->Prop}{k:Nat}{h:Cells}(he:ToldE E Enc k h){b:Addr}{n:Nat}{l:List α}(s:Sl E k h (some b) n l):∀ i,i<=l.length->∃ vs,Rows Enc vs (l.take i)/\vs.length=i*k/\(∀ (t:Nat) v,vs[t]?=some v->h.cell? (b.add t)=some v)/\∀ v∈vs,isOne v=true:=by
 intro i
 induction i with
 | zero=>intro _;exact⟨[],.nil,by simp,fun t v hv=>by simp at hv,fun v hv=>by simp at hv⟩
 | succ i j =>
  intro m;obtain⟨vs,h1,h2,h3,c⟩:=j (by omega);obtain⟨x,a,g,e,d⟩:=s.at (i:=i) (by rw[s.1];omega);cases e;obtain⟨ws,w1,w2,w3,w4⟩:=he _ _ d;refine⟨vs++ws,?_,by rw[List.length_append,h2,w2,Nat.add_mul];omega,fun t v hv=>?_,fun v hv=>?_⟩
  ·rw[List.take_add_one,g];exact h1.snoc w1
  ·by_cases f:t<vs.length
   ·rw[List.getElem?_append_left f]at hv;exact h3 t v hv
   ·rw[List.getElem?_append_right (by omega)]at hv;have:=w3 _ v hv;rw[Gp]at this;rw[show t=i*k+(t-vs.length) by omega];exact this
  ·rcases List.mem_append.1 hv with hv|hv
   ·exact c v hv
   ·exact w4 v hv
theorem Rows.append{α:Type}{Enc:α->List Value->Prop}{vs:List Value}{l:List α}(r:Rows Enc vs l){ws:List Value}{a:List α}(b:Rows Enc ws a):Rows Enc (vs++ws) (l++a):=by
 induction b with
 | nil=>simpa using r
 | snoc b he c=>rw[<- List.append_assoc,<- List.append_assoc];exact c.snoc he
section
variable {P:Program} {X:XP} {Q:Leaf->LH->Prop}
variable {h h₀:LH}{k:Value->T}{ty sT xT el xe:TypeId}{s by_ n c mc:Nat}{z:Option Value}{p q:Option Addr}
theorem t_append0{ts:Array TypeId}(h0:ts[0]?=some sT)(h1:ts[1]?=some xT)(hu:P.underlying sT=some (.slice el))(j:P.underlying xT=some (.slice xe))
 (f:(P.info? el).map (fun i=>(i.size,i.bytes,i.zero))=some (s,by_,z))(d:n<=c)(g:(k (.slice p n c)).wp X P Q h):(T.sem false (Builtin.append_ ts ty #[.slice p n c,.slice q 0 mc]) k).wp X P Q h:=by
 obtain⟨inf,e,_,_,_⟩:=Z3 f;refine Jh (A:=fun v h'=>v=.slice p n c/\h'=h.get) ?_ (by rintro v h' ⟨rfl,rfl⟩;exact g);unfold Builtin.append_;rw[h0,h1];simp only[List.getElem?_toArray,List.getElem?_cons_zero,List.getElem?_cons_succ];simp only[lwp_bind,Qd hu,Q2 e,Qd j,Qg,Bool.false_eq_true,if_false,Bool.not_false,if_true,Builtin.lenOf,Nat.add_zero,if_pos d];cases q with
 | none =>
  simp only[Builtin.firstCells,Qg];cases p with
  | none=>exact⟨rfl,rfl⟩
  | some a=>exact⟨rfl,rfl⟩
 | some b =>
  simp only[Builtin.firstCells,Nat.zero_mul];refine Wv (l:=[]) rfl (fun t v hv=>by simp at hv) ?_;cases p with
  | none=>exact⟨rfl,rfl⟩
  | some a=>exact⟨rfl,rfl⟩
theorem OwnRow.le_cap{k:Nat}{h:Cells}{vs:List Value}(o:OwnRow el k h p n c vs):n<=c:=by
 rcases o.2 with⟨_,h1,h2⟩|⟨_,_,_,_,_,h,_⟩
 ·omega
 ·exact h
theorem t_copy{α:Type}{E:Cells->Addr->α->Prop}{Enc:α->List Value->Prop}{ts:Array TypeId}{z:Value}{m:Nat}{l d:List α}(h0:ts[0]?=some sT)(h1:ts[1]?=some xT)(hu:P.underlying sT=some (.slice el))(D:P.underlying xT=some (.slice xe))
 (B:(P.info? el).map (fun i=>(i.size,i.bytes,i.zero))=some (s,by_,some z))(u:z.cells.size=s)(hb:by_<=1024)(F:n+m<=2^30)(g:Growing Enc el s h₀.get h.get p n c l)(hle:h₀.le h)(src:Sl E s h.get q m d)(he:ToldE E Enc s h.get)
 (C:∀ e c' h',h₀.le h'->(∀ r y,(∀ a,p=some a->a.block≠r)->h.get r=some y->h'.get r=some y)->Growing Enc el s h₀.get h'.get e (n+m) c' (l++d)->(k (.slice e (n+m) c')).wp X P Q h'):(T.sem false (Builtin.append_ ts ty #[.slice p n c,.slice q m mc]) k).wp X P Q h:=by
 obtain⟨vs,o,r⟩:=g.row;by_cases hm:m=0
 ·subst hm;have j:d=[]:=List.eq_nil_of_length_eq_zero src.1.symm;subst j;refine t_append0 h0 h1 hu D B o.le_cap ?_;have:=C p c h hle (fun r y _ v=>v) (by rw[List.append_nil];exact g);exact this
 ·obtain⟨x,b,_,f,_⟩:=src.at (i:=0) (by omega);subst f;obtain⟨ws,w1,w2,w3,w4⟩:=flat he src d.length (Nat.le_refl _);rw[List.take_length]at w1;have t:=src.1;refine t_append h0 h1 hu D B u hb F o (by rw[w2,t]) w3 w4 (by omega) fun e c' h' a b c=>?_;obtain⟨w,A⟩:=Hl hle.1 g.new b c;exact C e c' _ ⟨w,hle.2⟩ (fun r y hr v=>b r y v hr) ⟨⟨vs++ws,a,r.append w1⟩,A⟩
theorem t_build0G{α:Type}{Enc:α->List Value->Prop}{K:Value->T}{t:TypeId}{b:Nat}(hu:P.underlying t=some (.slice el))(d:(P.info? el).map (fun i=>(i.size,i.bytes,i.zero))=some (s,b,z))(hle:h₀.le h)
 (e:∀ r h',h.get r=none->h.le h'->Growing Enc el s h₀.get h'.get (some ⟨r,0,none⟩) 0 0 []->(K (.slice (some ⟨r,0,none⟩) 0 0)).wp X P Q h'):(T.sem false (Instr.buildSlice t 0 #[]) K).wp X P Q h:=by
 refine t_build0 hu d fun r hr=>?_;refine e r _ hr (Q1 hr) ⟨⟨[],⟨by simp,.inr ⟨r,#[],rfl,Qn _ _ _,by simp,Nat.le_refl _,fun j v hv=>by simp at hv⟩⟩,.nil⟩,fun a c=>?_⟩;cases c;cases f:h₀.get r with
 | none=>rfl
 | some x=>rw[hle.1 _ _ f]at hr;cases hr
end
end
section
def EventE(h:Cells)(a:Addr)(e:Tr.Ev):Prop:=h.cell? (a.add 0)=some (.int .i64 e.kind)/\h.cell? (a.add 1)=some (.int .i64 e.day)/\h.cell? (a.add 2)=some (.int .i64 e.land) /\
 (∃ q m c,h.cell? (a.add 3)=some (.slice q m c)/\m<=c/\Sl IntE 1 h q m e.items)/\h.cell? (a.add 4)=some (.int .i64 e.since)
variable {h₀ h0 h:Cells}
theorem EventE.grow:Grow EventE:=fun _ _ _ _ a h=>by
 obtain⟨h0,h1,h2,⟨q,m,c,h3,h5,d⟩,b⟩:=h;exact⟨a _ _ h0,a _ _ h1,a _ _ h2,⟨q,m,c,a _ _ h3,h5,d.rd IntE.grow a⟩,a _ _ b⟩
def EventEnc(h₀:Cells)(e:Tr.Ev)(ws:List Value):Prop:=∃ q m c,ws=[.int .i64 e.kind,.int .i64 e.day,.int .i64 e.land,.slice q m c,.int .i64 e.since]/\m<=c/\Sl IntE 1 h₀ q m e.items
theorem EventEnc.len:∀ x ws,EventEnc h₀ x ws->ws.length=5:=by rintro x _ ⟨q,m,c,rfl,_⟩;rfl
theorem EventEnc.e{h':Cells}(hr:Rd h₀ h'):∀ a x ws,EventEnc h₀ x ws->(∀ (j:Nat) w,ws[j]?=some w->h'.cell? (a.add j)=some w)->EventE h' a x:=by
 rintro a x _ ⟨q,m,c,rfl,b,d⟩ hc;exact⟨hc 0 _ rfl,hc 1 _ rfl,hc 2 _ rfl,⟨q,m,c,hc 3 _ rfl,b,d.rd IntE.grow hr⟩,hc 4 _ rfl⟩
def EventB(h0:Cells)(h:Cells)(a:Addr)(x:Tr.Ev):Prop:=∃ q m c,(∀ (j:Nat) w,[Value.int .i64 x.kind,.int .i64 x.day,.int .i64 x.land,.slice q m c,.int .i64 x.since][j]?=some w->h.cell? (a.add j)=some w)/\m<=c/\Sl IntE 1 h0 q m x.items
theorem Uy:ToldE (EventB h0) (EventEnc h0) 5 h:=by
 rintro a x ⟨q,m,c,h1,h2,h3⟩;exact⟨_,⟨q,m,c,rfl,h2,h3⟩,rfl,h1,fun w hw=>by simp at hw;rcases hw with rfl|rfl|rfl|rfl|rfl<;>rfl⟩
theorem EventB.of(hr:Rd h0 h){p:Option Addr}{n:Nat}{l:List Tr.Ev}(s:Sl EventE 5 h0 p n l):Sl (EventB h0) 5 h p n l:=by
 refine⟨s.1,s.2.1,fun i x k=>?_⟩;obtain⟨a,g,h1,h2,h3,⟨q,m,c,d,e,f⟩,h5⟩:=s.2.2 i x k;refine⟨a,g,q,m,c,fun j w b=>?_,e,f⟩
 match j,b with
 | 0,b=>cases b;exact hr _ _ h1
 | 1,b=>cases b;exact hr _ _ h2
 | 2,b=>cases b;exact hr _ _ h3
 | 3,b=>cases b;exact hr _ _ d
 | 4,b=>cases b;exact hr _ _ h5
 | j+5,b=>simp at b
structure TC where
 p:Option Addr
 n:Nat
 c:Nat
def treatyV(f:TC)(x:Tr.TF):Value:=.agg #[.int .i64 x.items,.int .i64 x.lands,.int .i64 x.start,.int .i64 x.depend,.int .i64 x.refuse,.int .i64 x.turn,.slice f.p f.n f.c]
def TreatyR(h:Cells)(f:TC)(x:Tr.TF):Prop:=f.n<=f.c/\Sl EventE 5 h f.p f.n x.events
theorem TreatyR.rd{h h':Cells}{f:TC}{x:Tr.TF}(hr:Rd h h')(t:TreatyR h f x):TreatyR h' f x:=⟨t.1,t.2.rd EventE.grow hr⟩
theorem TreatyR.le{h h':Cells}{f:TC}{x:Tr.TF}(a:h.le h')(t:TreatyR h f x):TreatyR h' f x:=t.rd (Jj a)
end
end Go.TM
namespace Go.Y
section
set_option maxHeartbeats 0
set_option linter.unusedVariables false
set_option maxRecDepth 100000
variable {X:XP} {h:LH} {A:Value->LH->Prop}
variable {a b c d e f g i j k l m:Int}{n o p q r s t u v w x y z:Nat}{B C D E F G H I J K L M:Option Addr}
theorem w2018:FX X 57 #[.agg #[a,b,c,d,e,f,.slice B n o],g,i] h A (.cT 58 #[.agg #[a,b,c,d,e,f,.slice B n o],g,i] fun q j=>.unS q fun m k s=>.unCons j fun q j=>.ui q fun x=>.unNil j (.new 193 #[false,false,false,false,false] fun p=>.loop [.int .i64 0] (fun j=>.pi j fun l j=>.unNil j (bif decide (l<(↑k:Int)) then .need (0<=l/\l<(↑k:Int)) (.someA m fun m=>.li (m.add (l.toNat*1)) fun k=>.need (0<=l/\l<(↑5:Int)) (.store ((Addr.add ⟨p,0,none⟩ (l.toNat*1)).add 0) (.bool (decide (k>=0))) (.ag [.int .i64 (wrap .i64 (l+1))]))) else .bk [l])) (fun j=>.pi j fun l j=>.unNil j (.loadB (Addr.add ⟨p,0,none⟩ 0) fun r=>.loadB (Addr.add ⟨p,0,none⟩ 1) fun t=>.loadB (Addr.add ⟨p,0,none⟩ 2) fun u=>.loadB (Addr.add ⟨p,0,none⟩ 3) fun v=>.loadB (Addr.add ⟨p,0,none⟩ 4) fun w=>.sem false (Sem.bind (eqGuard BinOp.eql 193 (Operand.tmp 32) (Operand.tmp 33) (.agg #[r,t,u,v,w]) (.agg #[false,false,false,false,false])) fun z=>binOp BinOp.eql 193 (.agg #[r,t,u,v,w]) (.agg #[false,false,false,false,false])) fun q=>.unB q fun r=>bif r then .sem false (Instr.makeSlice 122 (.int .i64 (↑k:Int)) (.int .i64 (↑k:Int))) fun q=>.unS q fun m k s=>.rt (.tuple #[.slice m k s,x]) else .sem false (Instr.sliceAt 193 (.pointer (some ⟨p,0,none⟩)) none (some (.int .i64 (↑k:Int))) (some (.int .i64 (↑k:Int)))) fun y=>.unS y fun m k s=>.rt (.tuple #[.slice m k s,x]))) (fun j=>.pi j fun k j=>.unNil j (.rt (.tuple #[.slice none 0 0,.int .i64 0]))) fun C D=>.fail)):=fk [3] [⟨0,[(22,.int .i64)],[3],[],[],[]⟩] [] Tryz.f57
theorem w2021:FX X 64 #[.agg #[a,b,c,d,e,f,.slice B n o]] h A (.blk (.cB 121 #[a,.int .i64 0,.int .i64 5] fun j=>bif !j then .rn [.int .i64 1] else .cB 121 #[b,.int .i64 1,.int .i64 3] fun j=>bif !j then .rn [.int .i64 1] else .cB 122 #[c] fun j=>bif !j then .rn [.int .i64 1] else .cB 122 #[d] fun j=>bif !j then .rn [.int .i64 1] else .cB 122 #[e] fun j=>bif !j then .rn [.int .i64 1] else .cB 122 #[f] fun j=>bif !j then .rn [.int .i64 1] else .ag [.int .i64 0]) (fun g=>.pi g fun k g=>.unNil g (bif decide ((↑n:Int)>10) then .rt (.int .i64 2) else .loop [k,.int .i64 0] (fun g=>.pi g fun k g=>.pi g fun i g=>.unNil g (bif decide (i<(↑n:Int)) then .need (0<=i/\i<(↑n:Int)) (.someA B fun l=>.li ((l.add (i.toNat*5)).add 0) fun q=>.li ((l.add (i.toNat*5)).add 1) fun r=>.li ((l.add (i.toNat*5)).add 2) fun s=>.loadS ((l.add (i.toNat*5)).add 3) fun v t p=>.li ((l.add (i.toNat*5)).add 4) fun u=>.cI 123 #[.agg #[a,b,c,d,e,f,.slice B n o],.agg #[q,r,s,.slice v t p,u]] fun m=>bif m != 0 then .rn [m,i] else .ag [k,.int .i64 (wrap .i64 (i+1))]) else .bk [k,i])) (fun g=>.pi g fun k g=>.pi g fun k g=>.unNil g (.rt (.int .i64 0))) (fun g=>.pi g fun k g=>.pi g fun i g=>.unNil g (.rt (.int .i64 k))) fun w x=>.fail)) (fun g=>.pi g fun k g=>.unNil g (.rt (.int .i64 k))) fun w x=>.fail):=fk [1,4] [⟨0,[(2,.int .i64),(47,.int .i64)],[1],[],[],[]⟩] [⟨3,[(2,.int .i64)],[1],[],[],[]⟩] Tryz.f64
theorem w2023:FX X 59 #[.agg #[a,b,c,d,e,f,.slice B n o],g,i] h A (.cI 113 #[.agg #[a,b,c,d,e,f,.slice B n o],g,i] fun j=>bif j != 0 then .rt (.tuple #[.slice none 0 0,j]) else .sem false (Instr.makeMap 198 none) fun r=>.unM r fun l=>.sem false (Sem.bind (Instr.mapUpdate 198 (.map l) (.int .i64 0) (.bool true)) fun y=>pure (.tuple #[])) fun v=>.sem false (Sem.bind (Instr.mapUpdate 198 (.map l) (.int .i64 10000) (.bool true)) fun y=>pure (.tuple #[])) fun v=>.loop [.int .i64 0] (fun k=>.pi k fun j k=>.unNil k (bif decide (j<(↑n:Int)) then .need (0<=j/\j<(↑n:Int)) (.someA B fun s=>.li ((s.add (j.toNat*5)).add 0) fun x=>.li ((s.add (j.toNat*5)).add 1) fun m=>.li ((s.add (j.toNat*5)).add 2) fun q=>.loadS ((s.add (j.toNat*5)).add 3) fun G u p=>.li ((s.add (j.toNat*5)).add 4) fun z=>.sem false (Sem.bind (Instr.mapUpdate 198 (.map l) (.int .i64 m) (.bool true)) fun y=>pure (.tuple #[])) fun v=>.ag [.int .i64 (wrap .i64 (j+1))]) else .bk [j])) (fun k=>.pi k fun j k=>.unNil k (.cl 114 #[.map l] fun r=>.unS r fun l j p=>.sem false (Instr.sliceAt 47 (.slice l j p) none (some (.int .i64 (wrap .i64 ((↑j:Int)-1)))) none) fun E=>.unS E fun s x p=>.loop [.slice none 0 0,.int .i64 0] (fun k=>.popS k fun t m p k=>.pi k fun q k=>.unNil k (bif decide (q<(↑x:Int)) then .need (0<=q/\q<(↑x:Int)) (.someA s fun C=>.li (C.add (q.toNat*1)) fun u=>.need (0<=wrap .i64 (q+1)/\wrap .i64 (q+1)<(↑j:Int)) (.someA l fun l=>.li (l.add ((wrap .i64 (q+1)).toNat*1)) fun j=>.cI 112 #[.agg #[a,b,c,d,e,f,.slice B n o,g,i],u] fun z=>bif decide (z<0) then .ag [.slice t m p,.int .i64 (wrap .i64 (q+1))] else bif decide ((↑m:Int)>0) then .need (0<=wrap .i64 ((↑m:Int)-1)/\wrap .i64 ((↑m:Int)-1)<(↑m:Int)) (.someA t fun l=>.li ((l.add ((wrap .i64 ((↑m:Int)-1)).toNat*2)).add 1) fun D=>bif D==wrap .i64 (u-1) then .need (0<=wrap .i64 ((↑m:Int)-1)/\wrap .i64 ((↑m:Int)-1)<(↑m:Int)) (.someA t fun l=>.store (((l.add ((wrap .i64 ((↑m:Int)-1)).toNat*2)).add 1).add 0) (.int .i64 (wrap .i64 (j-1))) (.ag [.slice t m p,.int .i64 (wrap .i64 (q+1))])) else .sem false (Instr.buildSlice 22 1 #[(0,.agg #[u,.int .i64 (wrap .i64 (j-1))])]) fun r=>.unS r fun l j w=>.sem false (Builtin.append_ #[22,22] 22 #[.slice t m p,.slice l j w]) fun r=>.unS r fun l j p=>.ag [.slice l j p,.int .i64 (wrap .i64 (q+1))]) else .sem false (Instr.buildSlice 22 1 #[(0,.agg #[u,.int .i64 (wrap .i64 (j-1))])]) fun r=>.unS r fun l j w=>.sem false (Builtin.append_ #[22,22] 22 #[.slice t m p,.slice l j w]) fun r=>.unS r fun l j p=>.ag [.slice l j p,.int .i64 (wrap .i64 (q+1))])) else .bk [.slice t m p,q])) (fun k=>.popS k fun l j p k=>.pi k fun m k=>.unNil k (.rt (.tuple #[.slice l j p,.int .i64 0]))) (fun k=>.popS k fun l j p k=>.pi k fun j k=>.unNil k (.rt (.tuple #[.slice none 0 0,.int .i64 0]))) fun v F=>.fail)) (fun k=>.pi k fun j k=>.unNil k (.rt (.tuple #[.slice none 0 0,.int .i64 0]))) fun v F=>.fail):=fk [3,11,13] [⟨0,[(31,.int .i64)],[3],[],[],[]⟩,⟨2,[(14,.slice),(51,.int .i64)],[3,13],[],[],[]⟩] [] Tryz.f59
theorem w2026:FX X 58 #[.agg #[a,b,c,d,e,f,.slice B n o],g,i] h A (.cI 111 #[.agg #[a,b,c,d,e,f,.slice B n o],g,i] fun k=>bif k != 0 then .rt (.tuple #[.slice none 0 0,k]) else .loop [.slice none 0 0,.int .i64 0] (fun j=>.popS j fun l k m j=>.pi j fun p j=>.unNil j (bif decide (p<a) then .cI 112 #[.agg #[a,b,c,d,e,f,.slice B n o,g,p],i] fun t=>.sem false (Instr.buildSlice 47 1 #[(0,.int .i64 t)]) fun q=>.unS q fun r u s=>.sem false (Builtin.append_ #[47,47] 47 #[.slice l k m,.slice r u s]) fun q=>.unS q fun l k m=>.ag [.slice l k m,.int .i64 (wrap .i64 (p+1))] else .bk [.slice l k m,p])) (fun j=>.popS j fun l k m j=>.pi j fun p j=>.unNil j (.rt (.tuple #[.slice l k m,.int .i64 0]))) (fun j=>.popS j fun l k m j=>.pi j fun k j=>.unNil j (.rt (.tuple #[.slice none 0 0,.int .i64 0]))) fun v w=>.fail):=fk [3] [⟨0,[(9,.slice),(20,.int .i64)],[3],[],[],[]⟩] [] Tryz.f58
theorem w2029:FX X 60 #[.agg #[a,b,c,d,e,f,.slice B n o],g,i] h A (.cI 111 #[.agg #[a,b,c,d,e,f,.slice B n o],g,i] fun k=>bif k != 0 then .rt (.tuple #[.slice none 0 0,k]) else .loop [.slice none 0 0,.int .i64 0] (fun j=>.popS j fun l k m j=>.pi j fun p j=>.unNil j (bif decide (p<a) then .cT 115 #[.agg #[a,b,c,d,e,f,.slice B n o,g,p],i] fun q j=>.unAgg q fun u=>.pi u fun Q w=>.pi w fun R C=>.pi C fun S D=>.pi D fun U E=>.pi E fun V F=>.pi F fun W G=>.popS G fun K Y L H=>.pi H fun Z I=>.pi I fun M J=>.pi J fun N x=>.pi x fun O y=>.popB y fun r z=>.unNil z (.unCons j fun q j=>.unB q fun r=>.unNil j (bif r then .sem false (Instr.buildSlice 47 1 #[(0,.int .i64 p)]) fun q=>.unS q fun s v t=>.sem false (Builtin.append_ #[47,47] 47 #[.slice l k m,.slice s v t]) fun q=>.unS q fun l k m=>.ag [.slice l k m,.int .i64 (wrap .i64 (p+1))] else .ag [.slice l k m,.int .i64 (wrap .i64 (p+1))])) else .bk [.slice l k m,p])) (fun j=>.popS j fun l k m j=>.pi j fun p j=>.unNil j (.rt (.tuple #[.slice l k m,.int .i64 0]))) (fun j=>.popS j fun l k m j=>.pi j fun k j=>.unNil j (.rt (.tuple #[.slice none 0 0,.int .i64 0]))) fun a0 b0=>.fail):=fk [3,11] [⟨0,[(9,.slice),(22,.int .i64)],[3],[],[],[]⟩] [] Tryz.f60
theorem w2044:FX X 61 #[.agg #[a,b,c,d,e,f,.slice B n o],g,i,j] h A (.new 38 #[a,b,c,d,e,f,.slice B n o] fun l=>.new 3 #[g] fun F=>.new 3 #[i] fun G=>.new 3 #[j] fun H=>.li (Addr.add ⟨l,0,none⟩ 0) fun s=>.li (Addr.add ⟨l,0,none⟩ 1) fun L=>.li (Addr.add ⟨l,0,none⟩ 2) fun U=>.li (Addr.add ⟨l,0,none⟩ 3) fun W=>.li (Addr.add ⟨l,0,none⟩ 4) fun Y=>.li (Addr.add ⟨l,0,none⟩ 5) fun Z=>.loadS (Addr.add ⟨l,0,none⟩ 6) fun w a0 t=>.li ⟨F,0,none⟩ fun b0=>.li ⟨G,0,none⟩ fun c0=>.li ⟨H,0,none⟩ fun d0=>.cI 116 #[.agg #[s,L,U,W,Y,Z,.slice w a0 t],b0,c0,d0] fun s=>bif s != 0 then .rt (.tuple #[.slice none 0 0,false,s]) else .li (Addr.add ⟨l,0,none⟩ 0) fun s=>.li (Addr.add ⟨l,0,none⟩ 1) fun M=>.li (Addr.add ⟨l,0,none⟩ 2) fun N=>.li (Addr.add ⟨l,0,none⟩ 3) fun O=>.li (Addr.add ⟨l,0,none⟩ 4) fun Q=>.li (Addr.add ⟨l,0,none⟩ 5) fun R=>.loadS (Addr.add ⟨l,0,none⟩ 6) fun w S t=>.cl 117 #[.agg #[s,M,N,O,Q,R,.slice w S t]] fun k=>.unS k fun p s t=>.new 47 #[.slice none 0 0] fun D=>.store (Addr.add ⟨D,0,none⟩ 0) (.slice p s t) (.blk (.both (.sem false (Instr.makeChan 154 (.int .i64 0)) fun k=>.unC k fun p=>.both (.sem false (Instr.makeChan 206 (.int .i64 0)) fun k=>.unC k fun r=>.both (.new 154 #[.chan none] fun l=>.new 206 #[.chan none] fun m=>.store (Addr.add ⟨l,0,none⟩ 0) (.chan p) (.store (Addr.add ⟨m,0,none⟩ 0) (.chan r) (.ag [.pointer (some ⟨l,0,none⟩),.pointer (some ⟨m,0,none⟩)]))) (.new 206 #[.chan none] fun l=>.new 154 #[.chan none] fun m=>.store (Addr.add ⟨m,0,none⟩ 0) (.chan p) (.store (Addr.add ⟨l,0,none⟩ 0) (.chan r) (.ag [.pointer (some ⟨m,0,none⟩),.pointer (some ⟨l,0,none⟩)])))) (.both (.new 154 #[.chan none] fun l=>.both (.sem false (Instr.makeChan 206 (.int .i64 0)) fun k=>.unC k fun r=>.new 206 #[.chan none] fun m=>.store (Addr.add ⟨l,0,none⟩ 0) (.chan p) (.store (Addr.add ⟨m,0,none⟩ 0) (.chan r) (.ag [.pointer (some ⟨l,0,none⟩),.pointer (some ⟨m,0,none⟩)]))) (.new 206 #[.chan none] fun m=>.both (.sem false (Instr.makeChan 206 (.int .i64 0)) fun k=>.unC k fun r=>.store (Addr.add ⟨l,0,none⟩ 0) (.chan p) (.store (Addr.add ⟨m,0,none⟩ 0) (.chan r) (.ag [.pointer (some ⟨l,0,none⟩),.pointer (some ⟨m,0,none⟩)]))) (.store (Addr.add ⟨l,0,none⟩ 0) (.chan p) (.sem false (Instr.makeChan 206 (.int .i64 0)) fun k=>.unC k fun p=>.store (Addr.add ⟨m,0,none⟩ 0) (.chan p) (.ag [.pointer (some ⟨l,0,none⟩),.pointer (some ⟨m,0,none⟩)]))))) (.new 206 #[.chan none] fun l=>.both (.sem false (Instr.makeChan 206 (.int .i64 0)) fun k=>.unC k fun r=>.new 154 #[.chan none] fun m=>.store (Addr.add ⟨m,0,none⟩ 0) (.chan p) (.store (Addr.add ⟨l,0,none⟩ 0) (.chan r) (.ag [.pointer (some ⟨m,0,none⟩),.pointer (some ⟨l,0,none⟩)]))) (.new 154 #[.chan none] fun m=>.both (.sem false (Instr.makeChan 206 (.int .i64 0)) fun k=>.unC k fun r=>.store (Addr.add ⟨m,0,none⟩ 0) (.chan p) (.store (Addr.add ⟨l,0,none⟩ 0) (.chan r) (.ag [.pointer (some ⟨m,0,none⟩),.pointer (some ⟨l,0,none⟩)]))) (.store (Addr.add ⟨m,0,none⟩ 0) (.chan p) (.sem false (Instr.makeChan 206 (.int .i64 0)) fun k=>.unC k fun p=>.store (Addr.add ⟨l,0,none⟩ 0) (.chan p) (.ag [.pointer (some ⟨m,0,none⟩),.pointer (some ⟨l,0,none⟩)]))))))) (.both (.sem false (Instr.makeChan 206 (.int .i64 0)) fun k=>.unC k fun p=>.both (.sem false (Instr.makeChan 154 (.int .i64 0)) fun k=>.unC k fun r=>.both (.new 154 #[.chan none] fun l=>.new 206 #[.chan none] fun m=>.store (Addr.add ⟨l,0,none⟩ 0) (.chan r) (.store (Addr.add ⟨m,0,none⟩ 0) (.chan p) (.ag [.pointer (some ⟨l,0,none⟩),.pointer (some ⟨m,0,none⟩)]))) (.new 206 #[.chan none] fun l=>.new 154 #[.chan none] fun m=>.store (Addr.add ⟨m,0,none⟩ 0) (.chan r) (.store (Addr.add ⟨l,0,none⟩ 0) (.chan p) (.ag [.pointer (some ⟨m,0,none⟩),.pointer (some ⟨l,0,none⟩)])))) (.both (.new 154 #[.chan none] fun l=>.both (.sem false (Instr.makeChan 154 (.int .i64 0)) fun k=>.unC k fun r=>.new 206 #[.chan none] fun m=>.store (Addr.add ⟨l,0,none⟩ 0) (.chan r) (.store (Addr.add ⟨m,0,none⟩ 0) (.chan p) (.ag [.pointer (some ⟨l,0,none⟩),.pointer (some ⟨m,0,none⟩)]))) (.new 206 #[.chan none] fun m=>.sem false (Instr.makeChan 154 (.int .i64 0)) fun k=>.unC k fun r=>.store (Addr.add ⟨l,0,none⟩ 0) (.chan r) (.store (Addr.add ⟨m,0,none⟩ 0) (.chan p) (.ag [.pointer (some ⟨l,0,none⟩),.pointer (some ⟨m,0,none⟩)])))) (.new 206 #[.chan none] fun l=>.both (.sem false (Instr.makeChan 154 (.int .i64 0)) fun k=>.unC k fun r=>.new 154 #[.chan none] fun m=>.store (Addr.add ⟨m,0,none⟩ 0) (.chan r) (.store (Addr.add ⟨l,0,none⟩ 0) (.chan p) (.ag [.pointer (some ⟨m,0,none⟩),.pointer (some ⟨l,0,none⟩)]))) (.new 154 #[.chan none] fun m=>.sem false (Instr.makeChan 154 (.int .i64 0)) fun k=>.unC k fun r=>.store (Addr.add ⟨m,0,none⟩ 0) (.chan r) (.store (Addr.add ⟨l,0,none⟩ 0) (.chan p) (.ag [.pointer (some ⟨m,0,none⟩),.pointer (some ⟨l,0,none⟩)])))))) (.both (.new 154 #[.chan none] fun l=>.both (.sem false (Instr.makeChan 154 (.int .i64 0)) fun k=>.unC k fun p=>.both (.sem false (Instr.makeChan 206 (.int .i64 0)) fun k=>.unC k fun r=>.new 206 #[.chan none] fun m=>.store (Addr.add ⟨l,0,none⟩ 0) (.chan p) (.store (Addr.add ⟨m,0,none⟩ 0) (.chan r) (.ag [.pointer (some ⟨l,0,none⟩),.pointer (some ⟨m,0,none⟩)]))) (.new 206 #[.chan none] fun m=>.both (.sem false (Instr.makeChan 206 (.int .i64 0)) fun k=>.unC k fun r=>.store (Addr.add ⟨l,0,none⟩ 0) (.chan p) (.store (Addr.add ⟨m,0,none⟩ 0) (.chan r) (.ag [.pointer (some ⟨l,0,none⟩),.pointer (some ⟨m,0,none⟩)]))) (.store (Addr.add ⟨l,0,none⟩ 0) (.chan p) (.sem false (Instr.makeChan 206 (.int .i64 0)) fun k=>.unC k fun p=>.store (Addr.add ⟨m,0,none⟩ 0) (.chan p) (.ag [.pointer (some ⟨l,0,none⟩),.pointer (some ⟨m,0,none⟩)]))))) (.both (.sem false (Instr.makeChan 206 (.int .i64 0)) fun k=>.unC k fun p=>.both (.sem false (Instr.makeChan 154 (.int .i64 0)) fun k=>.unC k fun r=>.new 206 #[.chan none] fun m=>.store (Addr.add ⟨l,0,none⟩ 0) (.chan r) (.store (Addr.add ⟨m,0,none⟩ 0) (.chan p) (.ag [.pointer (some ⟨l,0,none⟩),.pointer (some ⟨m,0,none⟩)]))) (.new 206 #[.chan none] fun m=>.sem false (Instr.makeChan 154 (.int .i64 0)) fun k=>.unC k fun r=>.store (Addr.add ⟨l,0,none⟩ 0) (.chan r) (.store (Addr.add ⟨m,0,none⟩ 0) (.chan p) (.ag [.pointer (some ⟨l,0,none⟩),.pointer (some ⟨m,0,none⟩)])))) (.new 206 #[.chan none] fun m=>.both (.sem false (Instr.makeChan 154 (.int .i64 0)) fun k=>.unC k fun p=>.both (.sem false (Instr.makeChan 206 (.int .i64 0)) fun k=>.unC k fun r=>.store (Addr.add ⟨l,0,none⟩ 0) (.chan p) (.store (Addr.add ⟨m,0,none⟩ 0) (.chan r) (.ag [.pointer (some ⟨l,0,none⟩),.pointer (some ⟨m,0,none⟩)]))) (.store (Addr.add ⟨l,0,none⟩ 0) (.chan p) (.sem false (Instr.makeChan 206 (.int .i64 0)) fun k=>.unC k fun p=>.store (Addr.add ⟨m,0,none⟩ 0) (.chan p) (.ag [.pointer (some ⟨l,0,none⟩),.pointer (some ⟨m,0,none⟩)])))) (.sem false (Instr.makeChan 206 (.int .i64 0)) fun k=>.unC k fun p=>.sem false (Instr.makeChan 154 (.int .i64 0)) fun k=>.unC k fun r=>.store (Addr.add ⟨l,0,none⟩ 0) (.chan r) (.store (Addr.add ⟨m,0,none⟩ 0) (.chan p) (.ag [.pointer (some ⟨l,0,none⟩),.pointer (some ⟨m,0,none⟩)])))))) (.new 206 #[.chan none] fun l=>.both (.sem false (Instr.makeChan 154 (.int .i64 0)) fun k=>.unC k fun p=>.both (.sem false (Instr.makeChan 206 (.int .i64 0)) fun k=>.unC k fun r=>.new 154 #[.chan none] fun m=>.store (Addr.add ⟨m,0,none⟩ 0) (.chan p) (.store (Addr.add ⟨l,0,none⟩ 0) (.chan r) (.ag [.pointer (some ⟨m,0,none⟩),.pointer (some ⟨l,0,none⟩)]))) (.new 154 #[.chan none] fun m=>.both (.sem false (Instr.makeChan 206 (.int .i64 0)) fun k=>.unC k fun r=>.store (Addr.add ⟨m,0,none⟩ 0) (.chan p) (.store (Addr.add ⟨l,0,none⟩ 0) (.chan r) (.ag [.pointer (some ⟨m,0,none⟩),.pointer (some ⟨l,0,none⟩)]))) (.store (Addr.add ⟨m,0,none⟩ 0) (.chan p) (.sem false (Instr.makeChan 206 (.int .i64 0)) fun k=>.unC k fun p=>.store (Addr.add ⟨l,0,none⟩ 0) (.chan p) (.ag [.pointer (some ⟨m,0,none⟩),.pointer (some ⟨l,0,none⟩)]))))) (.both (.sem false (Instr.makeChan 206 (.int .i64 0)) fun k=>.unC k fun p=>.both (.sem false (Instr.makeChan 154 (.int .i64 0)) fun k=>.unC k fun r=>.new 154 #[.chan none] fun m=>.store (Addr.add ⟨m,0,none⟩ 0) (.chan r) (.store (Addr.add ⟨l,0,none⟩ 0) (.chan p) (.ag [.pointer (some ⟨m,0,none⟩),.pointer (some ⟨l,0,none⟩)]))) (.new 154 #[.chan none] fun m=>.sem false (Instr.makeChan 154 (.int .i64 0)) fun k=>.unC k fun r=>.store (Addr.add ⟨m,0,none⟩ 0) (.chan r) (.store (Addr.add ⟨l,0,none⟩ 0) (.chan p) (.ag [.pointer (some ⟨m,0,none⟩),.pointer (some ⟨l,0,none⟩)])))) (.new 154 #[.chan none] fun m=>.both (.sem false (Instr.makeChan 154 (.int .i64 0)) fun k=>.unC k fun p=>.both (.sem false (Instr.makeChan 206 (.int .i64 0)) fun k=>.unC k fun r=>.store (Addr.add ⟨m,0,none⟩ 0) (.chan p) (.store (Addr.add ⟨l,0,none⟩ 0) (.chan r) (.ag [.pointer (some ⟨m,0,none⟩),.pointer (some ⟨l,0,none⟩)]))) (.store (Addr.add ⟨m,0,none⟩ 0) (.chan p) (.sem false (Instr.makeChan 206 (.int .i64 0)) fun k=>.unC k fun p=>.store (Addr.add ⟨l,0,none⟩ 0) (.chan p) (.ag [.pointer (some ⟨m,0,none⟩),.pointer (some ⟨l,0,none⟩)])))) (.sem false (Instr.makeChan 206 (.int .i64 0)) fun k=>.unC k fun p=>.sem false (Instr.makeChan 154 (.int .i64 0)) fun k=>.unC k fun r=>.store (Addr.add ⟨m,0,none⟩ 0) (.chan r) (.store (Addr.add ⟨l,0,none⟩ 0) (.chan p) (.ag [.pointer (some ⟨m,0,none⟩),.pointer (some ⟨l,0,none⟩)]))))))))) (fun q=>.popA q fun p q=>.popA q fun r q=>.unNil q (.loadS ⟨D,0,none⟩ fun w s t=>.need (0<=(↑s:Int)) (.loop [.int .i64 0] (fun q=>.pi q fun y q=>.unNil q (bif decide (y<wrap .i64 (1*2^min (Int.toNat (↑s:Int)) 64)) then .new 3 #[.int .i64 0] fun m=>.store (Addr.add ⟨m,0,none⟩ 0) (.int .i64 y) (.spawn (.func (Fn.func 118) #[] #[.pointer (some ⟨D,0,none⟩),.pointer (some ⟨m,0,none⟩),.pointer (some ⟨l,0,none⟩),.pointer (some ⟨F,0,none⟩),.pointer (some ⟨G,0,none⟩),.pointer (some ⟨H,0,none⟩),.pointer (some p),.pointer (some r)]) #[] (.ag [.int .i64 (wrap .i64 (y+1))])) else .bk [y])) (fun q=>.pi q fun y q=>.unNil q (.loop [.slice none 0 0,false,.int .i64 (wrap .i64 (1*2^min (Int.toNat (↑s:Int)) 64))] (fun q=>.popS q fun x s t q=>.popB q fun u q=>.pi q fun v q=>.unNil q (bif decide (v>0) then .loadC p fun w=>.loadC r fun e0=>.comm false #[{ chan:=.chan w,send:=none,zero:=.slice none 0 0 },{ chan:=.chan e0,send:=none,zero:=.bool false }] CommShape.select fun k=>.unTup k fun K=>.unCons K fun k q=>.ui k fun E=>.unCons q fun k q=>.unB k fun f0=>.unCons q fun k q=>.unS k fun p C z=>.unCons q fun k q=>.unB k fun g0=>.unNil q (bif E==0 then bif !u then .ag [.slice p C z,true,v] else .cI 120 #[.slice p C z,.slice x s t] fun V=>bif decide (V<0) then .ag [.slice p C z,true,v] else .ag [.slice x s t,u,v] else bif E==1 then .ag [.slice x s t,u,.int .i64 (wrap .i64 (v-1))] else .ag [.slice x s t,u,v]) else .bk [.slice x s t,u,v])) (fun q=>.popS q fun p s t q=>.popB q fun u q=>.pi q fun v q=>.unNil q (.rt (.tuple #[.slice p s t,u,.int .i64 0]))) (fun q=>.popS q fun p s t q=>.popB q fun u q=>.pi q fun v q=>.unNil q (.rt (.tuple #[.slice p s t,u,.int .i64 0]))) fun I J=>.fail)) (fun q=>.pi q fun s q=>.unNil q (.rt (.tuple #[.slice none 0 0,false,.int .i64 0]))) fun I J=>.fail))) (fun q=>.popA q fun p q=>.popA q fun p q=>.unNil q (.rt (.tuple #[.slice none 0 0,false,.int .i64 0]))) fun I J=>.fail)):=fk [] [⟨0,[(34,.int .i64)],[],[],[],[]⟩,⟨2,[(8,.slice),(9,.bool),(15,.int .i64)],[],[],[],[]⟩] [⟨6,[(13,.adr),(14,.adr)],[],[],[],[]⟩] Tryz.f61
theorem w2052:FX X 121 #[a,b,c] h A (bif decide (b<=a) then .rt (.bool (decide (a<=c))) else .rt (.bool false)):=fk [] [] [] Tryz.f121
theorem w2053:FX X 122 #[a] h A (.cB 121 #[a,.int .i64 0,.int .i64 9999] fun b=>.rt (.bool b)):=fk [] [] [] Tryz.f122
theorem w2054:FX X 123 #[.agg #[a,b,c,d,e,f,.slice B n o],.agg #[g,i,j,.slice C p q,k]] h A (.blk (.blk (.cB 121 #[g,.int .i64 0,.int .i64 6] fun m=>.ag [.bool !m]) (fun l=>.popB l fun m l=>.unNil l (bif m then .ag [m] else .blk (.cB 122 #[i] fun m=>.ag [.bool !m]) (fun l=>.popB l fun m l=>.unNil l (bif m then .ag [m] else .cB 122 #[k] fun m=>.ag [.bool !m])) (fun l=>.popB l fun m l=>.unNil l (.rn [m])) fun u v=>.fail)) (fun l=>.popB l fun m l=>.unNil l (.rn [m])) fun u v=>.fail) (fun l=>.popB l fun m l=>.unNil l (bif m then .rt (.int .i64 1) else .cB 121 #[j,.int .i64 0,.int .i64 (wrap .i64 (b-1))] fun m=>bif !m then .rt (.int .i64 6) else .loop [.int .i64 0,.int .i64 0] (fun l=>.pi l fun s l=>.pi l fun r l=>.unNil l (bif decide (r<(↑p:Int)) then .need (0<=r/\r<(↑p:Int)) (.someA C fun w=>.li (w.add (r.toNat*1)) fun z=>.cB 121 #[z,.int .i64 0,.int .i64 (wrap .i64 (a-1))] fun m=>bif !m then .rn [.int .i64 6,r] else bif decide (r>0) then .need (0<=wrap .i64 (r-1)/\wrap .i64 (r-1)<(↑p:Int)) (.someA C fun w=>.li (w.add ((wrap .i64 (r-1)).toNat*1)) fun D=>bif decide (z<=D) then .rn [.int .i64 7,r] else .ag [s,.int .i64 (wrap .i64 (r+1))]) else .ag [s,.int .i64 (wrap .i64 (r+1))]) else .bk [s,r])) (fun l=>.pi l fun s l=>.pi l fun r l=>.unNil l (.need (0<=g/\g<(↑7:Int)) (.loadB (((Addr.add { block:=1,off:=0 } (g.toNat*4)).add 1).add 0) fun m=>.loadB (((Addr.add { block:=1,off:=0 } (g.toNat*4)).add 1).add 1) fun x=>.blk (.blk (.loadB (Addr.add { block:=3,off:=0 } 0) fun t=>.loadB (Addr.add { block:=3,off:=0 } 1) fun y=>.sem false (Sem.bind (eqGuard BinOp.eql 134 (Operand.tmp 64) (Operand.tmp 65) (.agg #[m,x]) (.agg #[t,y])) fun F=>binOp BinOp.eql 134 (.agg #[m,x]) (.agg #[t,y])) fun E=>.unB E fun m=>bif m then .ag [.bool (k != 0)] else .ag [false]) (fun l=>.popB l fun t l=>.unNil l (bif t then .ag [t] else bif !m then .ag [.bool (j != 0)] else .ag [false])) (fun l=>.popB l fun m l=>.unNil l (.rn [m])) fun u v=>.fail) (fun l=>.popB l fun m l=>.unNil l (bif m then .rt (.int .i64 1) else bif decide (k>i) then .rt (.int .i64 7) else .rt (.int .i64 0))) (fun l=>.popB l fun m l=>.unNil l (.rt (.int .i64 s))) fun u v=>.fail))) (fun l=>.pi l fun s l=>.pi l fun r l=>.unNil l (.rt (.int .i64 s))) fun u v=>.fail)) (fun l=>.popB l fun m l=>.unNil l (.rt (.int .i64 0))) fun u v=>.fail):=fk [2,3,7] [⟨1,[(4,.int .i64),(32,.int .i64)],[2,3],[],[],[]⟩] [⟨2000008,[(8,.bool)],[2,3],[],[],[]⟩,⟨2000063,[(63,.bool)],[2,3,7],[],[],[]⟩] Tryz.f123
theorem w2058:FX X 113 #[.agg #[a,b,c,d,e,f,.slice B n o],g,i] h A (.cI 159 #[.agg #[a,b,c,d,e,f,.slice B n o],g] fun j=>bif j != 0 then .rt (.int .i64 j) else .cB 121 #[i,.int .i64 0,.int .i64 (wrap .i64 (a-1))] fun k=>bif k then .rt (.int .i64 j) else .rt (.int .i64 6)):=fk [3] [] [] Tryz.f113
theorem w2059{b:Option Nat}:FX X 114 #[.map b] h A (.cl 163 #[.map b] fun a=>.cl 162 #[a] fun a=>.unS a fun c e d=>.rt (.slice c e d)):=fk [] [] [] Tryz.f114
def n2060(w x y z B C : Int)(F : Option Addr)(E D : Nat)(G H J : Int) : T := .cl 160 #[.agg #[w, .int .i64 x, .int .i64 y, .int .i64 z, .int .i64 B, .int .i64 C, .slice F E D, .int .i64 G, .int .i64 H]] fun c => .unS c fun r b d => .loop [.int .i64 10000, .int .i64 0, .int .i64 w, .int .i64 x, .int .i64 y, .int .i64 z, .int .i64 B, .int .i64 C, .slice F E D, .int .i64 G, .int .i64 H, .int .i64 J] (fun a => .pi a fun f a => .pi a fun e a => .pi a fun k a => .pi a fun l a => .pi a fun m a => .pi a fun n a => .pi a fun o a => .pi a fun p a => .popS a fun s q d a => .pi a fun g a => .pi a fun i a => .pi a fun j a => .unNil a (bif decide (e < (↑b : Int)) then .need (0 <= e /\ e < (↑b : Int)) (.someA r fun r => .loadV (r.add (e.toNat * 1)) fun c => .callv false (.func (Fn.method "touchmark/treaty.on") #[c] #[]) #[j] fun c => .unTup c fun u => .unCons u fun c a => .ui c fun b => .unCons a fun c a => .unB c fun I => .unNil a (bif !I then .ag [f, .int .i64 (wrap .i64 (e + 1)), .int .i64 k, .int .i64 l, .int .i64 m, .int .i64 n, .int .i64 o, .int .i64 p, .slice s q d, .int .i64 g, .int .i64 i, .int .i64 j] else .cl 161 #[.agg #[k, .int .i64 l, .int .i64 m, .int .i64 n, .int .i64 o, .int .i64 p, .slice s q d, .int .i64 g, .int .i64 i], .int .i64 6] fun c => .each c [b] (fun V a => .unCons V fun c L => .unAgg c fun u => .pi u fun W M => .pi M fun K N => .pi N fun Y O => .popS O fun r Z d Q => .pi Q fun v R => .unNil R (.unNil L (.pi a fun t a => .unNil a (bif decide (K <= j) then bif decide (v <= b) then .ag [.int .i64 (if v < t then v else t)] else .ag [t] else .ag [t])))) (fun a => .pi a fun b a => .unNil a (.ag [.int .i64 (if b < f then b else f), .int .i64 (wrap .i64 (e + 1)), .int .i64 k, .int .i64 l, .int .i64 m, .int .i64 n, .int .i64 o, .int .i64 p, .slice s q d, .int .i64 g, .int .i64 i, .int .i64 j])) (fun a => .pi a fun b a => .unNil a (.ag [.int .i64 (if b < f then b else f), .int .i64 (wrap .i64 (e + 1)), .int .i64 k, .int .i64 l, .int .i64 m, .int .i64 n, .int .i64 o, .int .i64 p, .slice s q d, .int .i64 g, .int .i64 i, .int .i64 j])) (fun a => .pi a fun b a => .unNil a (.rn [f, .int .i64 e, .int .i64 k, .int .i64 l, .int .i64 m, .int .i64 n, .int .i64 o, .int .i64 p, .slice s q d, .int .i64 g, .int .i64 i, .int .i64 j])) fun S U => .fail)) else .bk [f, .int .i64 e, .int .i64 k, .int .i64 l, .int .i64 m, .int .i64 n, .int .i64 o, .int .i64 p, .slice s q d, .int .i64 g, .int .i64 i, .int .i64 j])) (fun a => .pi a fun b a => .pi a fun f a => .pi a fun e a => .pi a fun k a => .pi a fun l a => .pi a fun m a => .pi a fun n a => .pi a fun o a => .popS a fun r p d a => .pi a fun q a => .pi a fun g a => .pi a fun i a => .unNil a (bif b == 10000 then .rt (.int .i64 (-1)) else .rt (.int .i64 b))) (fun a => .pi a fun b a => .pi a fun b a => .pi a fun b a => .pi a fun b a => .pi a fun b a => .pi a fun b a => .pi a fun b a => .pi a fun b a => .popS a fun r b d a => .pi a fun b a => .pi a fun b a => .pi a fun b a => .unNil a (.rt (.int .i64 0))) fun S U => .fail
theorem w2060(m_0 m_1 m_2 m_3 m_4 m_5:Int)(m_6p:Option Addr)(m_6n m_6c:Nat)(m_7 m_8 day:Int):FY X 112 #[.agg #[m_0,m_1,m_2,m_3,m_4,m_5,.slice m_6p m_6n m_6c,m_7,m_8],day] h A (n2060 m_0 m_1 m_2 m_3 m_4 m_5 m_6p m_6n m_6c m_7 m_8 day):=fj [2,3,8,10,11] [{ id:=2,slots:=[(45056,.int .i64)],ro:=[2,3,8],outs:=[],ps:=[.agg [.int .i64,.int .i64,.int .i64,.slice,.int .i64]] },⟨0,[(5,.int .i64),(15,.int .i64),(12288,.int .i64),(12289,.int .i64),(12290,.int .i64),(12291,.int .i64),(12292,.int .i64),(12293,.int .i64),(12294,.slice),(12295,.int .i64),(12296,.int .i64),(16384,.int .i64)],[],[],[],[]⟩] [] Tryz.f112
theorem w2063:FX X 111 #[.agg #[a,b,c,d,e,f,.slice B n o],g,i] h A (.cI 159 #[.agg #[a,b,c,d,e,f,.slice B n o],g] fun j=>bif j != 0 then .rt (.int .i64 j) else .cB 122 #[i] fun k=>bif k then .rt (.int .i64 j) else .rt (.int .i64 1)):=fk [3] [] [] Tryz.f111
theorem w2064:FX X 115 #[.agg #[a,b,c,d,e,f,.slice B n o,g,i],j] h A (.cl 164 #[.agg #[a,b,c,d,e,f,.slice B n o,g,i]] fun Z=>.unS Z fun m p r=>.loop [false,.int .i64 0,.int .i64 0,.int .i64 0,.int .i64 0,.int .i64 0,.int .i64 0,.int .i64 0,.slice none 0 0,.int .i64 0,.int .i64 0,.int .i64 0,.int .i64 0,false] (fun k=>.popB k fun q k=>.pi k fun l k=>.pi k fun u k=>.pi k fun v k=>.pi k fun w k=>.pi k fun x k=>.pi k fun y k=>.pi k fun z k=>.popS k fun G C r k=>.pi k fun D k=>.pi k fun t k=>.pi k fun E k=>.pi k fun H k=>.popB k fun s k=>.unNil k (bif decide (l<(↑p:Int)) then .need (0<=l/\l<(↑p:Int)) (.someA m fun m=>.li ((m.add (l.toNat*12)).add 0) fun p=>.li ((m.add (l.toNat*12)).add 1) fun M=>.li ((m.add (l.toNat*12)).add 2) fun N=>.li ((m.add (l.toNat*12)).add 3) fun O=>.li ((m.add (l.toNat*12)).add 4) fun Q=>.li ((m.add (l.toNat*12)).add 5) fun J=>.loadS ((m.add (l.toNat*12)).add 6) fun V R L=>.li ((m.add (l.toNat*12)).add 7) fun S=>.li ((m.add (l.toNat*12)).add 8) fun U=>.li ((m.add (l.toNat*12)).add 9) fun K=>.li ((m.add (l.toNat*12)).add 10) fun F=>.loadB ((m.add (l.toNat*12)).add 11) fun I=>bif I then .cB 121 #[j,F,.int .i64 (wrap .i64 (F+J))] fun W=>bif W then .cB 165 #[.agg #[p,M,N,O,Q,J,.slice V R L,S,U,K,F,I],.int .i64 (wrap .i64 (F-1))] fun Y=>bif !Y then bif !q then .ag [true,.int .i64 (wrap .i64 (l+1)),p,M,N,O,Q,J,.slice V R L,S,U,K,F,I] else bif decide (K<E) then .ag [true,.int .i64 (wrap .i64 (l+1)),p,M,N,O,Q,J,.slice V R L,S,U,K,F,I] else .ag [q,.int .i64 (wrap .i64 (l+1)),u,v,w,x,y,z,.slice G C r,D,t,E,H,s] else .ag [q,.int .i64 (wrap .i64 (l+1)),u,v,w,x,y,z,.slice G C r,D,t,E,H,s] else .ag [q,.int .i64 (wrap .i64 (l+1)),u,v,w,x,y,z,.slice G C r,D,t,E,H,s] else .ag [q,.int .i64 (wrap .i64 (l+1)),u,v,w,x,y,z,.slice G C r,D,t,E,H,s]) else .bk [q,l,u,v,w,x,y,z,.slice G C r,D,t,E,H,s])) (fun k=>.popB k fun q k=>.pi k fun p k=>.pi k fun p k=>.pi k fun l k=>.pi k fun u k=>.pi k fun v k=>.pi k fun w k=>.pi k fun x k=>.popS k fun m y r k=>.pi k fun z k=>.pi k fun C k=>.pi k fun D k=>.pi k fun t k=>.popB k fun s k=>.unNil k (.rt (.tuple #[.agg #[p,l,u,v,w,x,.slice m y r,z,C,D,t,s],q]))) (fun k=>.popB k fun q k=>.pi k fun p k=>.pi k fun p k=>.pi k fun l k=>.pi k fun u k=>.pi k fun v k=>.pi k fun w k=>.pi k fun x k=>.popS k fun m y r k=>.pi k fun z k=>.pi k fun C k=>.pi k fun D k=>.pi k fun t k=>.popB k fun s k=>.unNil k (.rt (.tuple #[.agg #[p,l,u,v,w,x,.slice m y r,z,C,D,t,s],q]))) fun a0 b0=>.fail):=fk [2,4,7] [⟨0,[(5,.bool),(11,.int .i64),(20480,.int .i64),(20481,.int .i64),(20482,.int .i64),(20483,.int .i64),(20484,.int .i64),(20485,.int .i64),(20486,.slice),(20487,.int .i64),(20488,.int .i64),(20489,.int .i64),(20490,.int .i64),(20491,.bool)],[2],[],[],[]⟩] [] Tryz.f115
theorem w2066:FX X 116 #[.agg #[a,b,c,d,e,f,.slice B n o],g,i,j] h A (.cI 113 #[.agg #[a,b,c,d,e,f,.slice B n o],g,i] fun k=>bif k != 0 then .rt (.int .i64 k) else .cB 122 #[j] fun l=>bif l then .rt (.int .i64 k) else .rt (.int .i64 1)):=fk [4] [] [] Tryz.f116
theorem w2067:FX X 117 #[.agg #[a,b,c,d,e,f,.slice B n o]] h A (.loop [.slice none 0 0,.int .i64 0] (fun g=>.popS g fun k j l g=>.pi g fun i g=>.unNil g (bif decide (i<(↑n:Int)) then .need (0<=i/\i<(↑n:Int)) (.someA B fun p=>.li ((p.add (i.toNat*5)).add 0) fun q=>.li ((p.add (i.toNat*5)).add 1) fun w=>.li ((p.add (i.toNat*5)).add 2) fun x=>.loadS ((p.add (i.toNat*5)).add 3) fun C y v=>.li ((p.add (i.toNat*5)).add 4) fun z=>.need (0<=q/\q<(↑7:Int)) (.loadV ((Addr.add { block:=1,off:=0 } (q.toNat*4)).add 3) fun m=>.callv false m #[] fun m=>.unB m fun s=>bif s then .sem false (Instr.buildSlice 47 1 #[(0,.int .i64 i)]) fun m=>.unS m fun r u t=>.sem false (Builtin.append_ #[47,47] 47 #[.slice k j l,.slice r u t]) fun m=>.unS m fun k j l=>.ag [.slice k j l,.int .i64 (wrap .i64 (i+1))] else .ag [.slice k j l,.int .i64 (wrap .i64 (i+1))])) else .bk [.slice k j l,i])) (fun g=>.popS g fun k j l g=>.pi g fun i g=>.unNil g (.rt (.slice k j l))) (fun g=>.popS g fun k j l g=>.pi g fun j g=>.unNil g (.rt (.slice none 0 0))) fun D E=>.fail):=fk [1,5] [⟨0,[(3,.slice),(9,.int .i64)],[1],[],[],[]⟩] [] Tryz.f117
theorem w2069:FX X 119 #[.agg #[a,b,c,d,e,f,.slice B n o],g,i,j,.slice C p q] h A (.loop [.int .i64 0,a,b,c,d,e,f,.slice none 0 0] (fun k=>.pi k fun l k=>.pi k fun t k=>.pi k fun u k=>.pi k fun v k=>.pi k fun w k=>.pi k fun x k=>.pi k fun y k=>.popS k fun m E r k=>.unNil k (bif decide (l<(↑n:Int)) then .need (0<=l/\l<(↑n:Int)) (.someA B fun z=>.li ((z.add (l.toNat*5)).add 0) fun D=>.li ((z.add (l.toNat*5)).add 1) fun O=>.li ((z.add (l.toNat*5)).add 2) fun L=>.loadS ((z.add (l.toNat*5)).add 3) fun Q M K=>.li ((z.add (l.toNat*5)).add 4) fun N=>.need (0<=D/\D<(↑7:Int)) (.loadV ((Addr.add { block:=1,off:=0 } (D.toNat*4)).add 3) fun s=>.callv false s #[] fun s=>.unB s fun G=>bif !G then .sem false (Instr.buildSlice 36 1 #[(0,.agg #[D,O,L,.slice Q M K,N])]) fun s=>.unS s fun F I H=>.sem false (Builtin.append_ #[36,36] 36 #[.slice m E r,.slice F I H]) fun s=>.unS s fun m J r=>.ag [.int .i64 (wrap .i64 (l+1)),t,u,v,w,x,y,.slice m J r] else .cB 166 #[.slice C p q,l] fun G=>bif G then .sem false (Instr.buildSlice 36 1 #[(0,.agg #[D,O,L,.slice Q M K,N])]) fun s=>.unS s fun F I H=>.sem false (Builtin.append_ #[36,36] 36 #[.slice m E r,.slice F I H]) fun s=>.unS s fun m J r=>.ag [.int .i64 (wrap .i64 (l+1)),t,u,v,w,x,y,.slice m J r] else .ag [.int .i64 (wrap .i64 (l+1)),t,u,v,w,x,y,.slice m E r])) else .bk [l,t,u,v,w,x,y,.slice m E r])) (fun k=>.pi k fun l k=>.pi k fun l k=>.pi k fun t k=>.pi k fun u k=>.pi k fun v k=>.pi k fun w k=>.pi k fun x k=>.popS k fun m y r k=>.unNil k (.cI 112 #[.agg #[l,t,u,v,w,x,.slice m y r,g,i],j] fun l=>.rt (.bool (decide (l>=0))))) (fun k=>.pi k fun l k=>.pi k fun l k=>.pi k fun l k=>.pi k fun l k=>.pi k fun l k=>.pi k fun l k=>.pi k fun l k=>.popS k fun m l r k=>.unNil k (.rt (.bool false))) fun R S=>.fail):=fk [5,11,13] [⟨0,[(19,.int .i64),(49152,.int .i64),(49153,.int .i64),(49154,.int .i64),(49155,.int .i64),(49156,.int .i64),(49157,.int .i64),(49158,.slice)],[5],[],[],[]⟩] [] Tryz.f119
def n2073(z B i C D E F o:Addr):T:=.sem false (Instr.buildSlice 47 0 #[]) fun g=>.unS g fun c b d=>.loadS z fun f n G=>.loop [.slice c b d,.int .i64 0] (fun a=>.popS a fun c b d a=>.pi a fun e a=>.unNil a (bif decide (e<(↑n:Int)) then .need (0<=e/\e<(↑n:Int)) (.someA f fun p=>.li (p.add (e.toNat*1)) fun k=>.li B fun l=>.need (0<=e) (bif wrap .i64 (↑(BitVec.toNat (BitVec.ofInt 64 (Int.fdiv l (2^min (e.toNat) 64)) &&& BitVec.ofInt 64 1)):Int)==1 then .sem false (Instr.buildSlice 47 1 #[(0,.int .i64 k)]) fun g=>.unS g fun q m j=>.sem false (Builtin.append_ #[47,47] 47 #[.slice c b d,.slice q m j]) fun g=>.unS g fun c b d=>.ag [.slice c b d,.int .i64 (wrap .i64 (e+1))] else .ag [.slice c b d,.int .i64 (wrap .i64 (e+1))])) else .bk [.slice c b d,e])) (fun a=>.popS a fun c b d a=>.pi a fun e a=>.unNil a (.li (i.add 0) fun k=>.li (i.add 1) fun l=>.li (i.add 2) fun m=>.li (i.add 3) fun v=>.li (i.add 4) fun w=>.li (i.add 5) fun x=>.loadS (i.add 6) fun f y j=>.li C fun s=>.li D fun t=>.li E fun u=>.cB 119 #[.agg #[k,l,m,v,w,x,.slice f y j],s,t,u,.slice c b d] fun r=>bif r then .loadC F fun f=>.comm false #[{ chan:=.chan f,send:=some (.slice c b d),zero:=.tuple #[] }] CommShape.send fun g=>.loadC o fun f=>.comm true #[{ chan:=.chan f,send:=some (.bool true),zero:=.tuple #[] }] CommShape.send fun g=>.rt (.tuple #[]) else .loadC o fun f=>.comm true #[{ chan:=.chan f,send:=some (.bool true),zero:=.tuple #[] }] CommShape.send fun g=>.rt (.tuple #[]))) (fun a=>.popS a fun c b d a=>.pi a fun b a=>.unNil a (.rt (.tuple #[]))) fun H I=>.fail
theorem w2073(z0 z1 z2 z3 z4 z5 z6 z7:Addr)(hX:XOK X)(hw:(n2073 z0 z1 z2 z3 z4 z5 z6 z7).wp X Tryz.prog (retQ A) h):FWK X Tryz.prog .deferred 118 #[.pointer (some z0),.pointer (some z1),.pointer (some z2),.pointer (some z3),.pointer (some z4),.pointer (some z5),.pointer (some z6),.pointer (some z7)] h A:=Yq (show ftree ({ P:=Tryz.prog,priv:=[],loops:=[{ id:=0,slots:=[(8,.slice),(14,.int .i64)],ro:=[],outs:=[] }],joins:=[],kd:=.deferred }) Tryz.f118 [.pointer (some z0),.pointer (some z1),.pointer (some z2),.pointer (some z3),.pointer (some z4),.pointer (some z5),.pointer (some z6),.pointer (some z7)]=n2073 z0 z1 z2 z3 z4 z5 z6 z7 by kernel_rfl) (by simp) (by kernel_rfl) (by kernel_rfl) hX hw
theorem w2074:FX X 120 #[.slice B n o,.slice C p q] h A (bif (↑n:Int) != (↑p:Int) then .rt (.int .i64 (wrap .i64 ((↑n:Int)-(↑p:Int)))) else .cI 142 #[.slice B n o,.slice C p q] fun a=>.rt (.int .i64 a)):=fk [] [] [] Tryz.f120
theorem w2079:FX X 159 #[.agg #[a,b,c,d,e,f,.slice B n o],g] h A (.cI 64 #[.agg #[a,b,c,d,e,f,.slice B n o]] fun i=>bif i != 0 then .rt (.int .i64 i) else .cB 121 #[g,.int .i64 0,.int .i64 (wrap .i64 (b-1))] fun j=>bif !j then .rt (.int .i64 6) else .rt (.int .i64 0)):=fk [2] [] [] Tryz.f159
theorem w2080{e:Value}:FX X 162 #[e] h A (.cl 190 #[e] fun a=>.unS a fun b d c=>.cl 191 #[.slice b d c] fun a=>.unTup a fun f=>.unNil f (.rt (.slice b d c))):=fk [] [] [] Tryz.f162
theorem w2081{a:Option Nat}:FX X 163 #[.map a] h A (.new 198 #[.map a] fun b=>.rt (.func (Fn.func 192) #[] #[.pointer (some ⟨b,0,none⟩)])):=fk [] [] [] Tryz.f163
theorem w2082:FY X 160 #[.agg #[a,b,c,d,e,f,.slice B n o,g,i]] h A (.cl 164 #[.agg #[a,b,c,d,e,f,.slice B n o,g,i]] fun q=>.unS q fun k l m=>.loop [.int .i64 0,.slice none 0 0] (fun j=>.pi j fun p j=>.popS j fun r L m j=>.unNil j (bif decide (p<(↑l:Int)) then .need (0<=p/\p<(↑l:Int)) (.someA k fun k=>.li ((k.add (p.toNat*12)).add 0) fun l=>.li ((k.add (p.toNat*12)).add 1) fun M=>.li ((k.add (p.toNat*12)).add 2) fun H=>.li ((k.add (p.toNat*12)).add 3) fun x=>.li ((k.add (p.toNat*12)).add 4) fun y=>.li ((k.add (p.toNat*12)).add 5) fun z=>.loadS ((k.add (p.toNat*12)).add 6) fun S C t=>.li ((k.add (p.toNat*12)).add 7) fun D=>.li ((k.add (p.toNat*12)).add 8) fun u=>.li ((k.add (p.toNat*12)).add 9) fun v=>.li ((k.add (p.toNat*12)).add 10) fun w=>.loadB ((k.add (p.toNat*12)).add 11) fun s=>.sem false (Instr.buildSlice 253 1 #[(0,.iface 201 (.agg #[l,M,H,x,y,z,.slice S C t,D,u,v,w,s]))]) fun q=>.unS q fun k l I=>.sem false (Builtin.append_ #[253,253] 253 #[.slice r L m,.slice k l I]) fun q=>.unS q fun k l m=>.ag [.int .i64 (wrap .i64 (p+1)),.slice k l m]) else .bk [p,.slice r L m])) (fun j=>.pi j fun l j=>.popS j fun k l m j=>.unNil j (.cl 161 #[.agg #[a,b,c,d,e,f,.slice B n o,g,i],.int .i64 5] fun q=>.each q [.slice k l m] (fun r0 j=>.unCons r0 fun q U=>.unAgg q fun J=>.pi J fun l f0=>.pi f0 fun l g0=>.pi g0 fun p i0=>.popS i0 fun k L m j0=>.pi j0 fun M k0=>.unNil k0 (.unNil U (.popS j fun k H m j=>.unNil j (.cT 115 #[.agg #[a,b,c,d,e,f,.slice B n o,g,i],l] fun q j=>.unAgg q fun J=>.pi J fun x l0=>.pi l0 fun y m0=>.pi m0 fun z o0=>.pi o0 fun C V=>.pi V fun D W=>.pi W fun u Y=>.popS Y fun r v t Z=>.pi Z fun w a0=>.pi a0 fun E b0=>.pi b0 fun F c0=>.pi c0 fun G d0=>.popB d0 fun s e0=>.unNil e0 (.unCons j fun q j=>.unB q fun O=>.unNil j (bif O then .cI 188 #[.agg #[a,b,c,d,e,f,.slice B n o,g,i],l] fun K=>.nds [.pp 6 1,l,.pp 6 1,.val (.agg #[x,y,z,C,D,u,.slice r v t,w,E,F,G,s]),.S k H m] (.sem false (Instr.buildSlice 253 1 #[(0,.iface 286 (.agg #[x,y,z,C,D,u,.slice r v t,w,E,F,G,s,l,K]))]) fun q=>.unS q fun N Q I=>.nds [.val (.agg #[x,y,z,C,D,u,.slice r v t,w,E,F,G,s,l,K]),.pp 6 1,l,.pp 6 1,.val (.agg #[x,y,z,C,D,u,.slice r v t,w,E,F,G,s]),.S k H m] (.sem false (Builtin.append_ #[253,253] 253 #[.slice k H m,.slice N Q I]) fun q=>.unS q fun k R m=>.nds [.val (.agg #[x,y,z,C,D,u,.slice r v t,w,E,F,G,s,l,K]),.pp 6 1,l,.pp 6 1,.val (.agg #[x,y,z,C,D,u,.slice r v t,w,E,F,G,s])] (.ag [.slice k R m]))) else .ag [.slice k H m])))))) (fun j=>.popS j fun k l m j=>.unNil j (.rt (.slice k l m))) (fun j=>.popS j fun k l m j=>.unNil j (.rt (.slice k l m))) (fun j=>.popS j fun k l m j=>.unNil j (.rt (.slice none 0 0))) fun p0 q0=>.fail)) (fun j=>.pi j fun l j=>.popS j fun k l m j=>.unNil j (.rt (.slice none 0 0))) fun p0 q0=>.fail):=fj [1,3,5,6,7] [⟨0,[(12,.int .i64),(16384,.slice)],[1],[],[],[]⟩,{ id:=2,slots:=[(16384,.slice)],ro:=[1],outs:=[],ps:=[.agg [.int .i64,.int .i64,.int .i64,.slice,.int .i64]] }] [] Tryz.f160
theorem w2083:FX X 161 #[.agg #[a,b,c,d,e,f,.slice B n o,g,i],j] h A (.new 196 #[a,b,c,d,e,f,.slice B n o,g,i] fun k=>.new 118 #[j] fun l=>.rt (.func (Fn.func 189) #[] #[.pointer (some ⟨k,0,none⟩),.pointer (some ⟨l,0,none⟩)])):=fk [] [] [] Tryz.f161
theorem w2084:FY X 164 #[.agg #[a,b,c,d,e,f,.slice B n o,g,i]] h A (.cl 161 #[.agg #[a,b,c,d,e,f,.slice B n o,g,i],.int .i64 0] fun p=>.each p [.slice none 0 0] (fun F k=>.unCons F fun p x=>.unAgg p fun v=>.pi v fun j y=>.pi y fun j z=>.pi z fun G C=>.popS C fun l H m D=>.pi D fun I E=>.unNil E (.unNil x (.popS k fun l s m k=>.unNil k (.cI 193 #[.agg #[a,b,c,d,e,f,.slice B n o,g,i],.int .i64 0] fun w=>.nds [j,.pp 4 1] (bif decide (w<=j) then .ag [.slice l s m] else .cI 193 #[.agg #[a,b,c,d,e,f,.slice B n o,g,i],j] fun q=>.nds [j,.pp 4 1,.val (.agg #[a,b,c,d,e,f,.slice B n o,g,i]),.pp 4 1] (.cI 188 #[.agg #[a,b,c,d,e,f,.slice B n o,g,i],j] fun r=>.nds [.pp 4 1,.pp 4 1,.pp 4 1] (.sem false (Instr.buildSlice 264 1 #[(0,.agg #[a,b,c,d,e,f,.slice B n o,g,i,j,.int .i64 (if r<q then r else q),.bool (decide (q<r))])]) fun p=>.unS p fun t j u=>.sem false (Builtin.append_ #[264,264] 264 #[.slice l s m,.slice t j u]) fun p=>.unS p fun l j m=>.ag [.slice l j m]))))))) (fun k=>.popS k fun l j m k=>.unNil k (.rt (.slice l j m))) (fun k=>.popS k fun l j m k=>.unNil k (.rt (.slice l j m))) (fun k=>.popS k fun l j m k=>.unNil k (.rt (.slice none 0 0))) fun J K=>.fail):=fj [1,3,4] [{ id:=0,slots:=[(16384,.slice)],ro:=[1],outs:=[],ps:=[.agg [.int .i64,.int .i64,.int .i64,.slice,.int .i64]] }] [] Tryz.f164
theorem w2085{t:Bool}:FY X 165 #[.agg #[a,b,c,d,e,f,.slice B n o,g,i,j,k,t],l] h A (.new 201 #[a,b,c,d,e,f,.slice B n o,g,i,j,k,t] fun p=>.new 3 #[l] fun y=>.li ((Addr.add ⟨p,0,none⟩ 0).add 0) fun r=>.li ((Addr.add ⟨p,0,none⟩ 0).add 1) fun E=>.li ((Addr.add ⟨p,0,none⟩ 0).add 2) fun G=>.li ((Addr.add ⟨p,0,none⟩ 0).add 3) fun H=>.li ((Addr.add ⟨p,0,none⟩ 0).add 4) fun I=>.li ((Addr.add ⟨p,0,none⟩ 0).add 5) fun J=>.loadS ((Addr.add ⟨p,0,none⟩ 0).add 6) fun N K u=>.li ((Addr.add ⟨p,0,none⟩ 0).add 7) fun L=>.li ((Addr.add ⟨p,0,none⟩ 0).add 8) fun M=>.cl 161 #[.agg #[r,E,G,H,I,J,.slice N K u,L,M],.int .i64 1] fun s=>.each s [false] (fun W m=>.unCons W fun s O=>.unAgg s fun D=>.pi D fun r Q=>.pi Q fun r R=>.pi R fun b0 S=>.popS S fun Y Z u U=>.pi U fun a0 V=>.unNil V (.unNil O (.popB m fun q m=>.unNil m (.li (Addr.add ⟨p,0,none⟩ 9) fun F=>.li ⟨y,0,none⟩ fun v=>.li (Addr.add ⟨p,0,none⟩ 9) fun w=>.li (((Addr.add ⟨p,0,none⟩ 0).add 0).add 4) fun x=>.cB 121 #[r,F,.int .i64 (if wrap .i64 (w+x)<v then wrap .i64 (w+x) else v)] fun z=>bif z then .callv false (.func (Fn.func 194) #[] #[.pointer (some ⟨p,0,none⟩),.pointer (some ⟨y,0,none⟩)]) #[r] fun s=>.unB s fun C=>bif !C then .rn [true] else .ag [q] else .ag [q])))) (fun m=>.popB m fun q m=>.unNil m (.rt (.bool false))) (fun m=>.popB m fun q m=>.unNil m (.rt (.bool false))) (fun m=>.popB m fun q m=>.unNil m (.rt (.bool q))) fun c0 d0=>.fail):=fj [4,5,6] [{ id:=0,slots:=[(20480,.bool)],ro:=[5],outs:=[],ps:=[.agg [.int .i64,.int .i64,.int .i64,.slice,.int .i64]] }] [] Tryz.f165
theorem w2091{a:Value}:FX X 190 #[a] h A (.cl 216 #[.slice none 0 0,a] fun e=>.unS e fun b d c=>.rt (.slice b d c)):=fk [] [] [] Tryz.f190
theorem w2093{f:Value}{g:Addr}:FX X 192 #[f,.pointer (some g)] h A (.loadM g fun j=>.sem false (Instr.range 198 (.map j)) fun b=>.unP b fun e=>.loop [] (fun a=>.unNil a (.sem false (Instr.next (.pointer e) false 0) fun b=>.unTup b fun c=>.unCons c fun d c=>.unB d fun d=>bif d then .unCons c fun b a=>.unCons a fun b a=>.unNil a (.sem false (Instr.entry (.pointer e)) fun b=>.unTup b fun c=>.unCons c fun b a=>.unCons a fun k a=>.unNil a (.ui b fun i=>.callv false f #[i] fun b=>.unB b fun d=>bif !d then .rn [] else .ag [])) else .unNil c (.bk []))) (fun a=>.unNil a (.rt (.tuple #[]))) (fun a=>.unNil a (.rt (.tuple #[]))) fun l m=>.fail):=fk [] [⟨0,[],[],[],[],[]⟩] [] Tryz.f192
theorem w2094:FY X 188 #[.agg #[a,b,c,d,e,f,.slice B n o,g,i],j] h A (.cl 161 #[.agg #[a,b,c,d,e,f,.slice B n o,g,i],.int .i64 3] fun p=>.each p [.int .i64 10000] (fun x k=>.unCons x fun p r=>.unAgg p fun q=>.pi q fun l s=>.pi s fun l t=>.pi t fun C u=>.popS u fun y D z v=>.pi v fun E w=>.unNil w (.unNil r (.pi k fun m k=>.unNil k (bif decide (l>=j) then .ag [.int .i64 (if l<m then l else m)] else .ag [m])))) (fun k=>.pi k fun l k=>.unNil k (.rt (.int .i64 l))) (fun k=>.pi k fun l k=>.unNil k (.rt (.int .i64 l))) (fun k=>.pi k fun l k=>.unNil k (.rt (.int .i64 0))) fun F G=>.fail):=fj [2,3,5,6] [{ id:=0,slots:=[(24576,.int .i64)],ro:=[2,3],outs:=[],ps:=[.agg [.int .i64,.int .i64,.int .i64,.slice,.int .i64]] }] [] Tryz.f188
theorem w2095{m:Value}{g:Addr}{j:Addr}:FX X 189 #[m,.pointer (some g),.pointer (some j)] h A (.loadS ((g.add 0).add 6) fun f c i=>.loop [.int .i64 0] (fun a=>.pi a fun b a=>.unNil a (bif decide (b<(↑c:Int)) then .need (0<=b/\b<(↑c:Int)) (.someA f fun e=>.li ((e.add (b.toNat*5)).add 0) fun c=>.li ((e.add (b.toNat*5)).add 1) fun n=>.li ((e.add (b.toNat*5)).add 2) fun k=>.loadS ((e.add (b.toNat*5)).add 3) fun f l i=>.li ((e.add (b.toNat*5)).add 4) fun o=>.blk (.li j fun c=>.need (0<=c/\c<(↑7:Int)) (.loadB (((Addr.add { block:=1,off:=0 } (c.toNat*4)).add 1).add 0) fun d=>bif !d then .ag [true] else .li (g.add 7) fun c=>.ag [.bool (k==c)])) (fun a=>.popB a fun d a=>.unNil a (.li j fun p=>bif c==p then bif d then .li (g.add 8) fun q=>.cB 166 #[.slice f l i,q] fun d=>bif d then .callv false m #[.agg #[c,n,k,.slice f l i,o]] fun r=>.unB r fun d=>bif !d then .rn [b] else .ag [.int .i64 (wrap .i64 (b+1))] else .ag [.int .i64 (wrap .i64 (b+1))] else .ag [.int .i64 (wrap .i64 (b+1))] else .ag [.int .i64 (wrap .i64 (b+1))])) (fun a=>.popB a fun d a=>.unNil a (.rn [b])) fun s t=>.fail) else .bk [b])) (fun a=>.pi a fun c a=>.unNil a (.rt (.tuple #[]))) (fun a=>.pi a fun c a=>.unNil a (.rt (.tuple #[]))) fun s t=>.fail):=fk [5] [⟨0,[(11,.int .i64)],[],[],[],[]⟩] [⟨4,[(6,.bool)],[5],[],[],[]⟩] Tryz.f189
theorem w2096:FY X 193 #[.agg #[a,b,c,d,e,f,.slice B n o,g,i],j] h A (.cl 161 #[.agg #[a,b,c,d,e,f,.slice B n o,g,i],.int .i64 4] fun p=>.each p [.int .i64 10000] (fun y k=>.unCons y fun p s=>.unAgg p fun q=>.pi q fun l t=>.pi t fun l u=>.pi u fun D v=>.popS v fun z E C w=>.pi w fun r x=>.unNil x (.unNil s (.pi k fun m k=>.unNil k (bif decide (r<=wrap .i64 (c+d)) then bif decide (l>=j) then .ag [.int .i64 (if l<m then l else m)] else .ag [m] else .ag [m])))) (fun k=>.pi k fun l k=>.unNil k (.rt (.int .i64 l))) (fun k=>.pi k fun l k=>.unNil k (.rt (.int .i64 l))) (fun k=>.pi k fun l k=>.unNil k (.rt (.int .i64 0))) fun F G=>.fail):=fj [2,3,5,6] [{ id:=0,slots:=[(24576,.int .i64)],ro:=[2,3],outs:=[],ps:=[.agg [.int .i64,.int .i64,.int .i64,.slice,.int .i64]] }] [] Tryz.f193
theorem w2097{c:Addr}{i:Addr}:FY X 194 #[a,.pointer (some c),.pointer (some i)] h A (.li ((c.add 0).add 0) fun e=>.li ((c.add 0).add 1) fun l=>.li ((c.add 0).add 2) fun n=>.li ((c.add 0).add 3) fun o=>.li ((c.add 0).add 4) fun p=>.li ((c.add 0).add 5) fun q=>.loadS ((c.add 0).add 6) fun u r g=>.li ((c.add 0).add 7) fun s=>.li ((c.add 0).add 8) fun t=>.cl 161 #[.agg #[e,l,n,o,p,q,.slice u r g,s,t],.int .i64 2] fun f=>.each f [false] (fun C b=>.unCons C fun f v=>.unAgg f fun k=>.pi k fun e w=>.pi w fun e x=>.pi x fun G y=>.popS y fun D E g z=>.pi z fun F B=>.unNil B (.unNil v (.popB b fun d b=>.unNil b (.li i fun m=>.cB 121 #[e,a,m] fun j=>bif j then .rn [true] else .ag [d])))) (fun b=>.popB b fun d b=>.unNil b (.rt (.bool false))) (fun b=>.popB b fun d b=>.unNil b (.rt (.bool false))) (fun b=>.popB b fun d b=>.unNil b (.rt (.bool d))) fun H I=>.fail):=fj [3,4,5] [{ id:=0,slots:=[(20480,.bool)],ro:=[3],outs:=[],ps:=[.agg [.int .i64,.int .i64,.int .i64,.slice,.int .i64]] }] [] Tryz.f194
theorem w2100{f:Value}:FY X 216 #[.slice B n o,f] h A (.each f [.slice B n o] (fun l a=>.unCons l fun e k=>.ui e fun b=>.unNil k (.popS a fun c j d a=>.unNil a (.sem false (Instr.buildSlice 47 1 #[(0,.int .i64 b)]) fun e=>.unS e fun g b i=>.sem false (Builtin.append_ #[47,47] 47 #[.slice c j d,.slice g b i]) fun e=>.unS e fun c b d=>.ag [.slice c b d]))) (fun a=>.popS a fun c b d a=>.unNil a (.rt (.slice c b d))) (fun a=>.popS a fun c b d a=>.unNil a (.rt (.slice c b d))) (fun a=>.popS a fun c b d a=>.unNil a (.rt (.slice none 0 0))) fun m p=>.fail):=fj [2] [{ id:=0,slots:=[(12288,.slice)],ro:=[],outs:=[],ps:=[.cell (.int .i64)] }] [] Tryz.f216
theorem w2137{p:Bool}:FX X 272 #[.agg #[a,b,c,d,e,f,.slice B n o,g,i,j,k,p],l] h A (.cB 121 #[l,j,.int .i64 (wrap .i64 (k-1))] fun m=>.nds [k,.pp 2 10,.pp 2 9,j,.pp 2 9] (bif m then .cB 165 #[.agg #[a,b,c,d,e,f,.slice B n o,g,i,j,k,p],l] fun m=>.nds [k,.pp 2 10,.pp 2 9,j,.pp 2 9,.B (!m),.B (!m),k,.pp 2 10,.pp 2 9] (.rt (.tuple #[j,.bool !m])) else .nds [k,.pp 2 10,.pp 2 9,j,.pp 2 9] (.both (.nds [k,.pp 2 10,.pp 2 9,j,.pp 2 9,false,k,.pp 2 10,.pp 2 9] (.rt (.tuple #[j,false]))) (.nds [k,.pp 2 10,.pp 2 9,k,.pp 2 10,.pp 2 9] (.rt (.tuple #[j,false])))))):=fk [2] [] [] Tryz.f272
theorem w2138{r:Bool}{p:Int}:FX X 287 #[.agg #[a,b,c,d,e,f,.slice B n o,g,i,j,k,r,l,m],p] h A (.cB 121 #[p,l,.int .i64 (wrap .i64 (m-1))] fun q=>.nds [m,.pp 2 13,.pp 2 12,j,.pp 2 9,.pp 2 0,m,.pp 2 13,.pp 2 12] (.rt (.tuple #[j,q]))):=fk [2] [] [] Tryz.f287
theorem w2140  : FX X 294 #[] h A (.rt (.bool true)):=fk [] [] [] Tryz.f294
theorem w2141  : FX X 295 #[] h A (.rt (.bool false)):=fk [] [] [] Tryz.f295
end
section
set_option maxHeartbeats 0
set_option linter.unusedVariables false
set_option maxRecDepth 100000
variable {X:XP} {h:LH} {A:Value->LH->Prop}
variable {a b c d e f g i j k l m:Int}{n o p q r s t u v w x y z:Nat}{B C D E F G H I J K L M:Option Addr}
theorem w2020:FX X 62 #[.slice B n o,.slice C p q] h A (bif (↑n:Int) != (↑p:Int) then .rt (.bool false) else .loop [false,.int .i64 0] (fun a=>.popB a fun c a=>.pi a fun b a=>.unNil a (bif decide (b<(↑n:Int)) then .need (0<=b/\b<(↑n:Int)) (.someA B fun d=>.loadB (d.add (b.toNat*1)) fun e=>.need (0<=b/\b<(↑p:Int)) (.someA C fun d=>.loadB (d.add (b.toNat*1)) fun f=>bif !e==f then .rn [false,b] else .ag [c,.int .i64 (wrap .i64 (b+1))])) else .bk [c,b])) (fun a=>.popB a fun c a=>.pi a fun b a=>.unNil a (.rt (.bool true))) (fun a=>.popB a fun c a=>.pi a fun b a=>.unNil a (.rt (.bool c))) fun g i=>.fail):=fk [] [⟨0,[(4,.bool),(5,.int .i64)],[],[],[],[]⟩] [] Tryz.f62
theorem w2022:FX X 67 #[.agg #[a,b,c,d,e,f,.slice B n o]] h A (.blk (.cB 87 #[a,.int .i64 0,.int .i64 5] fun j=>bif !j then .rn [.int .i64 1] else .cB 87 #[b,.int .i64 1,.int .i64 3] fun j=>bif !j then .rn [.int .i64 1] else .cB 124 #[c] fun j=>bif !j then .rn [.int .i64 1] else .cB 124 #[d] fun j=>bif !j then .rn [.int .i64 1] else .cB 124 #[e] fun j=>bif !j then .rn [.int .i64 1] else .cB 124 #[f] fun j=>bif !j then .rn [.int .i64 1] else .ag [.int .i64 0]) (fun g=>.pi g fun k g=>.unNil g (bif decide ((↑n:Int)>10) then .rt (.int .i64 2) else .loop [k,.int .i64 0] (fun g=>.pi g fun k g=>.pi g fun i g=>.unNil g (bif decide (i<(↑n:Int)) then .need (0<=i/\i<(↑n:Int)) (.someA B fun l=>.li ((l.add (i.toNat*5)).add 0) fun r=>.li ((l.add (i.toNat*5)).add 1) fun s=>.li ((l.add (i.toNat*5)).add 2) fun t=>.loadS ((l.add (i.toNat*5)).add 3) fun w u q=>.li ((l.add (i.toNat*5)).add 4) fun v=>.cI 125 #[.agg #[a,b,c,d,e,f,.slice B n o],.agg #[r,s,t,.slice w u q,v]] fun m=>.need (0<=i/\i<(↑n:Int)) (.someA B fun p=>.ne (.pointer (some (p.add (i.toNat*5)))) (.pointer (some (l.add (i.toNat*5)))) (.nds [i,.S B n o,.pp 1 6] (bif m != 0 then .rn [m,i] else .ag [k,.int .i64 (wrap .i64 (i+1))])))) else .bk [k,i])) (fun g=>.pi g fun k g=>.pi g fun k g=>.unNil g (.rt (.int .i64 0))) (fun g=>.pi g fun k g=>.pi g fun i g=>.unNil g (.rt (.int .i64 k))) fun x y=>.fail)) (fun g=>.pi g fun k g=>.unNil g (.rt (.int .i64 k))) fun x y=>.fail):=fk [1] [⟨0,[(2,.int .i64),(3,.int .i64)],[1],[],[],[]⟩] [⟨3,[(2,.int .i64)],[1],[],[],[]⟩] Tryz.f67
theorem w2025:FX X 55 #[.slice B n o,.slice C p q] h A (bif (↑n:Int) != (↑p:Int) then .rt (.bool false) else .loop [false,.int .i64 0] (fun b=>.popB b fun c b=>.pi b fun a b=>.unNil b (bif decide (a<(↑n:Int)) then .need (0<=a/\a<(↑n:Int)) (.someA B fun d=>.li ((d.add (a.toNat*2)).add 0) fun f=>.li ((d.add (a.toNat*2)).add 1) fun g=>.need (0<=a/\a<(↑p:Int)) (.someA C fun e=>.li ((e.add (a.toNat*2)).add 0) fun i=>.li ((e.add (a.toNat*2)).add 1) fun j=>.sem false (Sem.bind (eqGuard BinOp.neq 46 (Operand.tmp 20) (Operand.tmp 24) (.agg #[f,g]) (.agg #[i,j])) fun s=>binOp BinOp.neq 46 (.agg #[f,g]) (.agg #[i,j])) fun r=>.unB r fun m=>.need (0<=a/\a<(↑p:Int)) (.someA C fun k=>.ne (.pointer (some (k.add (a.toNat*2)))) (.pointer (some (e.add (a.toNat*2)))) (.nds [a,.S C p q] (.need (0<=a/\a<(↑n:Int)) (.someA B fun l=>.ne (.pointer (some (l.add (a.toNat*2)))) (.pointer (some (d.add (a.toNat*2)))) (.nds [a,.S B n o] (bif m then .rn [false,a] else .ag [c,.int .i64 (wrap .i64 (a+1))])))))))) else .bk [c,a])) (fun b=>.popB b fun c b=>.pi b fun a b=>.unNil b (.rt (.bool true))) (fun b=>.popB b fun c b=>.pi b fun a b=>.unNil b (.rt (.bool c))) fun t u=>.fail):=fk [] [⟨0,[(4,.bool),(5,.int .i64)],[],[],[],[]⟩] [] Tryz.f55
theorem w2056:FX X 124 #[a] h A (.cB 87 #[a,.int .i64 0,.int .i64 9999] fun b=>.rt (.bool b)):=fk [] [] [] Tryz.f124
theorem w2057:FX X 125 #[.agg #[a,b,c,d,e,f,.slice B n o],.agg #[g,i,j,.slice C p q,k]] h A (.blk (bif decide (g<0) then .rn [.int .i64 1] else bif decide (g>6) then .rn [.int .i64 1] else .cB 124 #[i] fun s=>bif !s then .rn [.int .i64 1] else .cB 124 #[k] fun s=>bif !s then .rn [.int .i64 1] else .ag [.int .i64 0]) (fun m=>.pi m fun r m=>.unNil m (.cB 87 #[j,.int .i64 0,.int .i64 (wrap .i64 (b-1))] fun s=>bif !s then .rt (.int .i64 6) else .loop [r,.int .i64 0] (fun m=>.pi m fun r m=>.pi m fun l m=>.unNil m (bif decide (l<(↑p:Int)) then .need (0<=l/\l<(↑p:Int)) (.someA C fun t=>.li (t.add (l.toNat*1)) fun v=>.cB 87 #[v,.int .i64 0,.int .i64 (wrap .i64 (a-1))] fun s=>.nds [a,.pp 2 0] (.need (0<=l/\l<(↑p:Int)) (.someA C fun u=>.ne (.pointer (some (u.add (l.toNat*1)))) (.pointer (some (t.add (l.toNat*1)))) (.nds [l,.S C p q,.pp 3 3] (bif !s then .rn [.int .i64 6,l] else bif decide (l>0) then .need (0<=l/\l<(↑p:Int)) (.someA C fun t=>.li (t.add (l.toNat*1)) fun w=>.need (0<=wrap .i64 (l-1)/\wrap .i64 (l-1)<(↑p:Int)) (.someA C fun t=>.li (t.add ((wrap .i64 (l-1)).toNat*1)) fun x=>bif decide (w<=x) then .rn [.int .i64 7,l] else .ag [r,.int .i64 (wrap .i64 (l+1))])) else .nds [.U,.U,.U,.U,.U,.U,.U,.B (decide (l>0)),l,.U,.U,.U,.U,.U,.U,.U,.B (decide (l>0)),l] (.ag [r,.int .i64 (wrap .i64 (l+1))])))))) else .bk [r,l])) (fun m=>.pi m fun r m=>.pi m fun r m=>.unNil m (bif g==4 then bif j != 0 then .rt (.int .i64 1) else bif g != 4 then bif g != 6 then bif k != 0 then .rt (.int .i64 1) else bif decide (k>i) then .rt (.int .i64 7) else .rt (.int .i64 0) else bif decide (k>i) then .rt (.int .i64 7) else .rt (.int .i64 0) else bif decide (k>i) then .rt (.int .i64 7) else .rt (.int .i64 0) else bif g != 4 then bif g != 6 then bif k != 0 then .rt (.int .i64 1) else bif decide (k>i) then .rt (.int .i64 7) else .rt (.int .i64 0) else bif decide (k>i) then .rt (.int .i64 7) else .rt (.int .i64 0) else bif decide (k>i) then .rt (.int .i64 7) else .rt (.int .i64 0))) (fun m=>.pi m fun r m=>.pi m fun l m=>.unNil m (.rt (.int .i64 r))) fun y z=>.fail)) (fun m=>.pi m fun r m=>.unNil m (.rt (.int .i64 r))) fun y z=>.fail):=fk [2,3] [⟨0,[(4,.int .i64),(5,.int .i64)],[2,3],[],[],[]⟩] [⟨3,[(4,.int .i64)],[2,3],[],[],[]⟩] Tryz.f125
end
end Go.Y
namespace Go.Y.Tre
section
open Go.TM.Tr
attribute [local irreducible] T.wp CV FWK
variable {h:LH}{p q:Option Addr}{n c m d:Nat}{l a b:List Int}
theorem c2052(n a b:Int):Pu Tryz.prog 121 #[n,a,b] h (.bool (inB n a b)):=by
 refine w2052 Qr ?_;refine t_if (fun e=>?_) (fun e=>?_)<;>refine Qh ⟨?_,rfl⟩<;>simp[inB,e]
theorem c2053(n:Int):Pu Tryz.prog 122 #[n] h (.bool (dayB n)):=by
 refine w2053 Qr ?_;refine t_pu (c2052 _ _ _) ?_;refine gZ ?_;exact Qh ⟨rfl,rfl⟩
theorem c2140:Pu Tryz.prog 294 #[] h (.bool true):=by
 refine w2140 Qr ?_;exact Qh ⟨rfl,rfl⟩
theorem c2141:Pu Tryz.prog 295 #[] h (.bool false):=by
 refine w2141 Qr ?_;exact Qh ⟨rfl,rfl⟩
theorem c49(n a b:Int):Pu Tryz.prog 87 #[n,a,b] h (.bool (inB n a b)):=by
 refine w49 _ _ _ Qr ?_;unfold n49;refine t_if (fun e=>?_) (fun e=>?_)<;>refine Qh ⟨?_,rfl⟩<;>simp[inB,e]
theorem c2056(n:Int):Pu Tryz.prog 124 #[n] h (.bool (dayB n)):=by
 refine w2056 Qr ?_;refine t_pu (c49 _ _ _) ?_;refine gZ ?_;exact Qh ⟨rfl,rfl⟩
theorem pu_gr{f:FuncId}{args:Array Value}{v:Value}(c:Pu Tryz.prog f args h v):Gr Tryz.prog f args h fun r _=>r=v :=
 FW.mono c (by rintro _ _ ⟨rfl,rfl⟩;exact⟨LH.le_refl _,rfl⟩)
def indexF(x:Int):Nat->List Int->Int
 | _,[]=>-1
 | i,y::l=>if x==y then i else indexF x (i+1) l
theorem indexF_ge(x:Int):∀ (l:List Int) (i:Nat),decide (indexF x i l>=0)=l.contains x:=by
 intro l
 induction l with
 | nil=>intro i;rfl
 | cons y l a =>
  intro i;rw[indexF,List.contains_cons];split
  ·rename_i h;rw[h];simp
  ·rename_i h;have h':(x==y)=false:=by simpa using h
   rw[a,h',Bool.false_or]
theorem c106(d:Sl IntE 1 h.get p n l)(x:Int):Pu Tryz.prog 195 #[.slice p n c,x] h (.int .i64 (indexF x 0 l)):=by
 refine w106 Qr ?_;have q:=d.1;have hb:=d.2.1;refine Je (fun m vs h'=>h'=h/\∃ i:Nat,vs=[.int .i64 0,.int .i64 i]/\i<=n/\m=n-i/\indexF x 0 l=indexF x i (l.drop i)) ⟨rfl,0,rfl,Nat.zero_le _,rfl,rfl⟩ ?_;rintro Y m vs _ g ⟨rfl,i,rfl,o,rfl,hc⟩;refine yJ (fun e=>?_) (fun e=>?_)
 ·obtain⟨y,a,j,k,f⟩:=d.at (i:=i) (by omega);unfold IntE at f;refine gZ ?_;rw[Jy j,indexF]at hc;refine Qt (fun b=>?_) (fun b=>?_)
  ·refine gZ ?_;refine Qh ⟨?_,rfl⟩;rw[hc,if_pos b]
  ·refine Qj (g (n-(i+1)) _ _ (by omega) ⟨rfl,i+1,?_,by omega,rfl,?_⟩)
   ·rw[Qm (by omega) (by omega)];rfl
   ·rw[hc,if_neg (by simp[b])]
 ·refine gZ ?_;refine Qh ⟨?_,rfl⟩;rw[hc,List.drop_eq_nil_of_le (by omega)];rfl
theorem c100(a:Sl IntE 1 h.get p n l)(x:Int):Pu Tryz.prog 166 #[.slice p n c,x] h (.bool (l.contains x)):=by
 refine w100 Qr ?_;refine t_pu (c106 a x) ?_;refine gZ ?_;refine Qh ⟨?_,rfl⟩;rw[indexF_ge]
theorem c35(f:Sl IntE 1 h.get p n a)(hb:Sl IntE 1 h.get q m b):Pu Tryz.prog 30 #[.slice p n c,.slice q m d] h (.bool (decide (a=b))):=by
 refine w35 _ _ _ _ _ _ Qr ?_;unfold n35;have D:=f.1;have hm:=hb.1;have w:=f.2.1;have v:=hb.2.1;refine Qt (fun e=>?_) (fun e=>?_)
 ·have:a≠b:=by rintro rfl;simp at e;omega
  exact Qh ⟨by simp[this],rfl⟩
 have z:n=m:=by simp at e;omega
 refine Je (fun k vs h'=>h=h'/\∃ i:Nat,vs=[.bool false,.int .i64 i]/\i<=n/\k=n-i/\a.take i=b.take i) ⟨rfl,0,rfl,Nat.zero_le _,rfl,rfl⟩ ?_;rintro Y k vs _ s ⟨rfl,i,rfl,C,rfl,hc⟩;refine yJ (fun e=>?_) (fun e=>?_)
 ·obtain⟨x,A,j,t,o⟩:=f.at (i:=i) (by omega);obtain⟨y,B,g,u,r⟩:=hb.at (i:=i) (by omega);unfold IntE at o r;refine yI (fun b1=>?_) (fun b1=>?_)
  ·refine gZ ?_;have:a≠b:=by rintro rfl;rw[j]at g;cases g;simp at b1
   exact Qh ⟨by simp[this],rfl⟩
  ·have l:x=y:=by simpa using b1
   refine Qj (s (n-(i+1)) _ _ (by omega) ⟨rfl,i+1,?_,by omega,rfl,?_⟩)
   ·rw[Qm (by omega) (by omega)];rfl
   ·rw[List.take_add_one,List.take_add_one,hc,j,g,l]
 ·refine gZ ?_;rw[List.take_of_length_le (by omega),List.take_of_length_le (by omega)]at hc;exact Qh ⟨by simp[hc],rfl⟩
theorem c109(x:Int):Pu Tryz.prog 197 #[x] h (.bool false):=by
 refine w109 Qr ?_;refine Qh ⟨?_,rfl⟩;simp
theorem c105(x y:Int):Pu Tryz.prog 171 #[x,y] h (.int .i64 (cmpI x y)):=by
 refine w105 Qr ?_;refine t_pu (c109 _) ?_;refine gZ ?_;refine t_pu (c109 _) ?_;refine yF ?_;refine yF ?_;refine t_if (fun e=>?_) (fun e=>?_)
 ·refine Qh ⟨?_,rfl⟩;rw[cmpI,if_pos e]
 ·refine t_if (fun a=>?_) (fun a=>?_)<;>refine Qh ⟨?_,rfl⟩<;>simp[cmpI,e,a]
theorem c97(g:Sl IntE 1 h.get p n a)(hb:Sl IntE 1 h.get q m b):Pu Tryz.prog 142 #[.slice p n c,.slice q m d] h (.int .i64 (cmpL a b)):=by
 refine w97 Qr ?_;have C:=g.1;have hm:=hb.1;have v:=g.2.1;have u:=hb.2.1;refine Je (fun k vs h'=>h=h'/\∃ i:Nat,vs=[.int .i64 0,.int .i64 i]/\i<=n/\i<=m/\k=n-i/\cmpL a b=cmpL (a.drop i) (b.drop i)) ⟨rfl,0,rfl,Nat.zero_le _,Nat.zero_le _,rfl,rfl⟩ ?_;rintro Y k vs _ s ⟨rfl,i,rfl,B,w,rfl,hc⟩;refine yJ (fun l=>?_) (fun l=>?_)
 ·obtain⟨x,A,z,t,o⟩:=g.at (i:=i) (by omega);unfold IntE at o;rw[Jy z]at hc;refine yJ (fun e=>?_) (fun e=>?_)
  ·refine gZ ?_;rw[List.drop_eq_nil_of_le (show b.length<=i by omega),cmpL]at hc;exact Qh ⟨by rw[hc],rfl⟩
  ·obtain⟨y,b1,j,hb1,r⟩:=hb.at (i:=i) (by omega);unfold IntE at r;rw[Jy j,cmpL]at hc;refine gZ ?_;refine t_pu (c105 _ _) ?_;refine yI (fun f=>?_) (fun f=>?_)
   ·refine gZ ?_;rw[if_pos (by simpa using f)]at hc;exact Qh ⟨by rw[hc],rfl⟩
   ·rw[if_neg (by simpa using f)]at hc;refine Qj (s (n-(i+1)) _ _ (by omega) ⟨rfl,i+1,?_,by omega,by omega,rfl,hc⟩);rw[Qm (by omega) (by omega)];rfl
 ·refine gZ ?_;rw[List.drop_eq_nil_of_le (show a.length<=i by omega)]at hc;refine t_if (fun e=>?_) (fun e=>?_)
  ·obtain⟨y,j⟩ : ∃ y,b[i]?=some y:=⟨b[i]'(by omega),List.getElem?_eq_getElem (by omega)⟩
   rw[Jy j,cmpL]at hc;exact Qh ⟨by rw[hc],rfl⟩
  ·rw[List.drop_eq_nil_of_le (show b.length<=i by omega),cmpL]at hc;exact Qh ⟨by rw[hc],rfl⟩
theorem c2074(g:Sl IntE 1 h.get p n a)(hb:Sl IntE 1 h.get q m b):Pu Tryz.prog 120 #[.slice p n c,.slice q m d] h (.int .i64 (fewerF a b)):=by
 refine w2074 Qr ?_;have k:=g.1;have hm:=hb.1;have j:=g.2.1;have i:=hb.2.1;refine Qt (fun e=>?_) (fun e=>?_)
 ·have f:a.length≠b.length:=by simp at e;omega
  rw[Qm (by omega) (by omega)];refine Qh ⟨?_,rfl⟩;rw[fewerF,if_pos f,k,hm]
 ·have f:¬ a.length≠b.length:=by simp at e;omega
  refine t_pu (c97 g hb) ?_;refine gZ ?_;refine Qh ⟨?_,rfl⟩;rw[fewerF,if_neg f]
end
section
open Go.TM.Tr
attribute [local irreducible] T.wp CV FWK
def landK(k:Nat):Bool:=!(Nat.beq k 4)
def sinceK(k:Nat):Bool:=Nat.beq k 4||Nat.beq k 6
def givesK(k:Nat):Bool:=Nat.beq k 0||(Nat.beq k 2||Nat.beq k 5)
structure Kinds(h:Cells):Prop where
 land:∀ k,k<7->h.cell? ⟨1,k*4+1,none⟩=some (.bool (landK k))
 since:∀ k,k<7->h.cell? ⟨1,k*4+2,none⟩=some (.bool (sinceK k))
 gives:∀ k,k<7->h.cell? ⟨1,k*4+3,none⟩=some (.func (.func (if givesK k then 294 else 295)) #[] #[])
 b0:h.cell? ⟨3,0,none⟩=some (.bool true)
 b1:h.cell? ⟨3,1,none⟩=some (.bool false)
variable {h:Cells}{n:Nat}
theorem Kinds.rd{h':Cells}(b:Rd h h')(k:Kinds h):Kinds h':=⟨fun i a=>b _ _ (k.land i a),fun i a=>b _ _ (k.since i a),fun i a=>b _ _ (k.gives i a),b _ _ k.b0,b _ _ k.b1⟩
theorem Kinds.le{h h':Cells}(a:h.le h')(k:Kinds h):Kinds h':=k.rd (Jj a)
theorem kind_nat{k:Int}(h:inB k 0 6=true):∃ n:Nat,k=n/\n<7:=by
 unfold inB at h;simp at h;exact⟨k.toNat,by omega,by omega⟩
theorem land_int(a:n<7):landK n=decide ((n:Int)≠4):=by
 match n,a with
 | 0,_|1,_|2,_|3,_|4,_|5,_|6,_=>decide
theorem since_int(a:n<7):sinceK n=decide ((n:Int)=4\/(n:Int)=6):=by
 match n,a with
 | 0,_|1,_|2,_|3,_|4,_|5,_|6,_=>decide
theorem Kinds.landAt(k:Kinds h)(a:n<7):h.cell? (((Addr.add ⟨1,0,none⟩ ((n:Int).toNat*4)).add 1).add 0)=some (.bool (landK n)):=by
 rw[Qa,Qa,Qa];simpa using k.land n a
theorem Kinds.landAt'(k:Kinds h)(a:n<7):h.cell? ((((Addr.add ⟨1,0,none⟩ ((n:Int).toNat*4)).add 1).add 0).add 0)=some (.bool (landK n)):=by
 rw[Qa,Qa,Qa,Qa];simpa using k.land n a
theorem Kinds.sinceAt(k:Kinds h)(a:n<7):h.cell? (((Addr.add ⟨1,0,none⟩ ((n:Int).toNat*4)).add 1).add 1)=some (.bool (sinceK n)):=by
 rw[Qa,Qa,Qa];have:=k.since n a;rw[show n*4+2=0+(n:Int).toNat*4+1+1 by simp]at this;exact this
theorem Kinds.givesAt(k:Kinds h)(a:n<7):h.cell? ((Addr.add ⟨1,0,none⟩ ((n:Int).toNat*4)).add 3)=some (.func (.func (if givesK n then 294 else 295)) #[] #[]):=by
 rw[Qa,Qa];simpa using k.gives n a
theorem Kinds.bound0(k:Kinds h):h.cell? (Addr.add ⟨3,0,none⟩ 0)=some (.bool true):=by rw[Qa];exact k.b0
theorem Kinds.bound1(k:Kinds h):h.cell? (Addr.add ⟨3,0,none⟩ 1)=some (.bool false):=by rw[Qa];exact k.b1
theorem itemsT_run{l:List Int}{b:Int}{i:Nat}{x:Int}{y:Int}(c:l[i]?=some x)(a:0<i->l[i-1]?=some y):Tr.stepT l b i x=if inB x 0 (b-1)=false then 6 else if 0<i/\x<=y then 7 else 0:=by
 unfold Tr.stepT;by_cases h0:0<i
 ·simp[List.getD,a h0]
 ·simp[h0]
theorem c2054{h:LH}(A:Kinds h.get){f:TC}{x:TF}{e:Ev}{q:Option Addr}{m c:Nat}(F:IsI (x.lands-1))(E:IsI (x.items-1))(B:Sl IntE 1 h.get q m e.items) :
  Pu Tryz.prog 123 #[treatyV f x,.agg #[.int .i64 e.kind,.int .i64 e.day,.int .i64 e.land,.slice q m c,.int .i64 e.since]] h (.int .i64 (eventT x e)):=by
 refine w2054 Qr ?_;have hm:=B.1;have hb:=B.2.1;refine Ja (fun vs h'=>vs=[.bool (!(inB e.kind 0 6&&(dayB e.day&&dayB e.since)))]/\h=h') ?_ ?_
 ·refine Ja (fun vs h'=>vs=[.bool (!(inB e.kind 0 6))]/\h=h') ?_ ?_
  ·refine t_pu (c2052 _ _ _) ?_;refine gZ ?_;exact Qj ⟨rfl,rfl⟩
  ·rintro vs _ ⟨rfl,rfl⟩;refine yI (fun b=>?_) (fun b=>?_)
   ·have:inB e.kind 0 6=false:=by simpa using b
    exact Qj ⟨by rw[this];rfl,rfl⟩
   ·have u:inB e.kind 0 6=true:=by simpa using b
    refine Ja (fun vs h'=>vs=[.bool (!(dayB e.day))]/\h=h') ?_ ?_
    ·refine t_pu (c2053 _) ?_;refine gZ ?_;exact Qj ⟨rfl,rfl⟩
    ·rintro vs _ ⟨rfl,rfl⟩;refine yI (fun d=>?_) (fun d=>?_)
     ·have:dayB e.day=false:=by simpa using d
      exact Qj ⟨by rw[this,u];rfl,rfl⟩
     ·have I:dayB e.day=true:=by simpa using d
      refine t_pu (c2053 _) ?_;refine gZ ?_;exact Qj ⟨by rw[u,I];rfl,rfl⟩
 rintro vs _ ⟨rfl,rfl⟩;refine yI (fun b=>?_) (fun b=>?_)
 ·refine Qh ⟨?_,rfl⟩;rw[eventT,if_pos (by simpa only [Bool.not_eq_true'] using b)]
 have u:(inB e.kind 0 6&&(dayB e.day&&dayB e.since))=true:=by simpa using b
 have o:eventT x e=if inB e.land 0 (x.lands-1)=false then 6 else if itemsT e.items x.items≠0 then itemsT e.items x.items else if (e.kind=4/\e.land≠0)\/(e.kind≠4/\e.kind≠6/\e.since≠0) then 1 else if e.since>e.day then 7 else 0:=by
  rw[eventT,if_neg (by rw[u];simp)]
 rw[Qm F.1 F.2];refine t_pu (c2052 _ _ _) ?_;refine yI (fun d=>?_) (fun d=>?_)
 ·refine Qh ⟨?_,rfl⟩;rw[o,if_pos (by simpa using d)]
 have p:eventT x e=if itemsT e.items x.items≠0 then itemsT e.items x.items else if (e.kind=4/\e.land≠0)\/(e.kind≠4/\e.kind≠6/\e.since≠0) then 1 else if e.since>e.day then 7 else 0:=by
  rw[o,if_neg (by simp at d;simp[d])]
 have t:inB e.kind 0 6=true:=by simp at u;exact u.1
 obtain⟨V,n,l⟩:=kind_nat t;refine Je (fun H vs h'=>h=h'/\∃ i:Nat,vs=[.int .i64 0,.int .i64 i]/\i<=m/\H=m-i/\itemsT e.items x.items=firstT (Tr.stepT e.items x.items) i (e.items.drop i)) ⟨rfl,0,rfl,Nat.zero_le _,rfl,rfl⟩ ?_;rintro Y H vs _ N ⟨rfl,i,rfl,P,rfl,hc⟩;refine yJ (fun J=>?_) (fun J=>?_)
 ·obtain⟨y,a,G,O,K⟩:=B.at (i:=i) (by omega);unfold IntE at K;rw[Jy G,firstT]at hc;refine gZ ?_;rw[Qm E.1 E.2];refine t_pu (c2052 _ _ _) ?_;refine gZ ?_;have next:Tr.stepT e.items x.items i y=0->Y [.int .i64 0,.int .i64 (wrap .i64 ((i:Int)+1))] h:=by
   intro v;rw[if_neg (by rw[v];simp)]at hc;refine N (m-(i+1)) _ _ (by omega) ⟨rfl,i+1,?_,by omega,rfl,hc⟩;rw[Qm (by omega) (by omega)];rfl
  have stop:∀ z:Int,z≠0->Tr.stepT e.items x.items i y=z->eventT x e=z:=by
   intro z v hr;rw[hr,if_pos v]at hc;rw[p,hc,if_pos v]
  refine Qt (fun d1=>?_) (fun d1=>?_)
  ·refine gZ ?_;refine Qh ⟨?_,rfl⟩;rw[stop 6 (by decide) (by rw[Tr.stepT,if_pos (by simpa using d1)])]
  have s:¬ inB y 0 (x.items-1)=false:=by simp at d1;simp[d1]
  refine t_if (fun d2=>?_) (fun d2=>?_)
  ·obtain⟨z,Q,v,w,L⟩:=B.at (i:=i-1) (by omega);unfold IntE at L;rw[O]at w;cases w;have D:wrap .i64 ((i:Int)-1)=((i-1:Nat):Int):=by rw[Qm (by omega) (by omega)];omega
   have r:=itemsT_run (b:=x.items) G (fun _=>v);rw[D];refine yJ (fun d3=>?_) (fun d3=>?_)
   ·refine gZ ?_;refine Qh ⟨?_,rfl⟩;rw[stop 7 (by decide) (by rw[r,if_neg s,if_pos ⟨by omega,d3⟩])]
   ·exact Qj (next (by rw[r,if_neg s,if_neg (by omega)]))
  ·exact Qj (next (by rw[Tr.stepT,if_neg s,if_neg (by omega)]))
 ·refine gZ ?_;rw[List.drop_eq_nil_of_le (by omega),firstT]at hc;have j:eventT x e=if (e.kind=4/\e.land≠0)\/(e.kind≠4/\e.kind≠6/\e.since≠0) then 1 else if e.since>e.day then 7 else 0:=by
   rw[p,if_neg (by rw[hc];simp)]
  rw[n];have R:=A.landAt' l;have S:=A.landAt l;have U:=A.sinceAt l;have g4:=A.bound0;have g5:=A.bound1;have g:=land_int l;have k:=since_int l;refine gZ ?_;refine Ja (fun vs h'=>vs=[.bool (decide ((e.kind=4/\e.land≠0)\/(e.kind≠4/\e.kind≠6/\e.since≠0)))]/\h=h') ?_ ?_
  ·refine Ja (fun vs h'=>vs=[.bool (decide (e.kind≠4/\e.kind≠6/\e.since≠0))]/\h=h') ?_ ?_
   ·refine gZ ?_;refine t_eqBB twoUses gUses ?_;refine yI (fun d3=>?_) (fun d3=>?_)
    ·refine Qj ⟨?_,rfl⟩;rw[g,k]at d3;simp at d3;congr 2;rw[n];by_cases C:e.since=0<;>simp[C,d3]<;>omega
    ·refine Qj ⟨?_,rfl⟩;rw[g,k]at d3;simp at d3;congr 2;rw[n];simp;omega
   ·rintro vs _ ⟨rfl,rfl⟩;refine yI (fun d3=>?_) (fun d3=>?_)
    ·refine Qj ⟨?_,rfl⟩;simp at d3;congr 2;simp[d3]
    ·simp at d3;refine Qt (fun d4=>?_) (fun d4=>?_)
     ·rw[g]at d4;simp at d4;refine Qj ⟨?_,rfl⟩;congr 2;rw[n,d4];simp;by_cases C:e.land=0<;>simp[C]
     ·rw[g]at d4;simp at d4;refine Qj ⟨?_,rfl⟩;congr 2;simp;rw[n]at d3 ⊢;constructor
      ·omega
      ·intro _ M;exact d3 (by omega) M
  rintro vs _ ⟨rfl,rfl⟩;refine yI (fun d5=>?_) (fun d5=>?_)
  ·refine Qh ⟨?_,rfl⟩;rw[j,if_pos (by simpa using d5)]
  ·rw[if_neg (by simpa using d5)]at j;refine t_if (fun d6=>?_) (fun d6=>?_)
   ·refine Qh ⟨?_,rfl⟩;rw[j,if_pos d6]
   ·refine Qh ⟨?_,rfl⟩;rw[j,if_neg d6]
end
end Go.Y.Tre
namespace Go.TM
section
section
variable {H:Type} {enc:TypeId×Value->H} {P:Program} {W:World} {base:Nat} {sp:Nat->Bool} {held:Bool} {fuel:Nat} {t:TypeId} {cs:List Value} {x:DataW H×List MemPlace}
structure TreatyTy(P:Program)(tI tIs tK tEv tEvs tFile:TypeId):Prop where
 int:P.underlying tI=some (.int .i64)
 int1:P.cellsOf tI=1
 kind:P.underlying tK=some (.int .i64)
 kind1:P.cellsOf tK=1
 bytes:0<P.bytesOf tI/\0<P.bytesOf tEv
 ints:P.underlying tIs=some (.slice tI)
 ints1:P.cellsOf tIs=1
 ev:U3 P tEv [(tK,0),(tI,1),(tI,2),(tIs,3),(tI,4)]
 ev5:P.cellsOf tEv=5
 evs:P.underlying tEvs=some (.slice tEv)
 evs1:P.cellsOf tEvs=1
 file:U3 P tFile [(tI,0),(tI,1),(tI,2),(tI,3),(tI,4),(tI,5),(tEvs,6)]
 file7:P.cellsOf tFile=7
variable {tI tIs tK tEv tEvs tFile:TypeId}
theorem t_ints(T:TreatyTy P tI tIs tK tEv tEvs tFile)(d:Light P tIs x.1)(h:DataW.trod enc P W base sp held fuel tIs cs=some x) :
  ∃ p n c l,cs=[.slice p n c]/\n<=c/\Sl IntE 1 (getW W) p n l:=by
 refine sl_of_trodR T.ints T.int1 T.bytes.1 d ?_ h;intro n a cs y _ hc b _;obtain⟨z,rfl,_,_⟩:=DataW.trod_int T.int b;exact⟨z,hc 0 _ rfl⟩
theorem ev_cells(T:TreatyTy P tI tIs tK tEv tEvs tFile)(w:cs.length=5)(y:Light P tEv x.1)(h:DataW.trod enc P W base sp held fuel tEv cs=some x) :
  ∃ q m c e,cs=[.int .i64 e.kind,.int .i64 e.day,.int .i64 e.land,.slice q m c,.int .i64 e.since]/\m<=c/\Sl IntE 1 (getW W) q m (Tr.Ev.items e):=by
 obtain⟨_,m,a⟩:=field_of T.ev y h
 match cs,w with
 | [c0,c1,c2,c3,c4],_ =>
  obtain⟨D,h0,z⟩:=a 0 tK 0 rfl;obtain⟨E,h1,A⟩:=a 1 tI 1 rfl;obtain⟨F,h2,B⟩:=a 2 tI 2 rfl;obtain⟨G,h3,b⟩:=a 3 tIs 3 rfl;obtain⟨H,n,C⟩:=a 4 tI 4 rfl;rw[T.kind1]at h0;rw[T.int1]at h1 h2 n;rw[T.ints1]at h3;obtain⟨o,d,_,_⟩:=DataW.trod_int T.kind h0;obtain⟨r,f,_,_⟩:=DataW.trod_int T.int h1;obtain⟨t,g,_,_⟩:=DataW.trod_int T.int h2;obtain⟨p,k,c,l,i,v,s⟩:=t_ints T b h3;obtain⟨u,j,_,_⟩:=DataW.trod_int T.int n;simp at d f g i j;subst d;subst f;subst g;subst i;subst j;exact⟨p,k,c,⟨o,r,t,l,u⟩,rfl,v,s⟩
theorem evs_of_trod(T:TreatyTy P tI tIs tK tEv tEvs tFile)(b:Light P tEvs x.1)(h:DataW.trod enc P W base sp held fuel tEvs cs=some x) :
  ∃ p n c l,cs=[.slice p n c]/\n<=c/\Sl EventE 5 (getW W) p n l:=by
 refine sl_of_trodR T.evs T.ev5 T.bytes.2 b ?_ h;intro n a cs y f hc g b;obtain⟨q,m,c,e,rfl,d,s⟩:=ev_cells T f b g;exact⟨e,hc 0 _ rfl,hc 1 _ rfl,hc 2 _ rfl,⟨q,m,c,hc 3 _ rfl,d,s⟩,hc 4 _ rfl⟩
theorem treaty_of_trod(T:TreatyTy P tI tIs tK tEv tEvs tFile)(D:Light P tFile x.1)(h:DataW.trod enc P W base sp held fuel tFile cs=some x) :
  ∃ f y,cs=[.int .i64 (Tr.TF.items y),.int .i64 y.lands,.int .i64 y.start,.int .i64 y.depend,.int .i64 y.refuse,.int .i64 y.turn,.slice (TC.p f) f.n f.c]/\TreatyR (getW W) f y:=by
 obtain⟨t,m,a⟩:=field_of T.file D h;rw[T.file7]at t
 match cs,t with
 | [c0,c1,c2,c3,c4,c5,c6],_ =>
  obtain⟨K,h0,E⟩:=a 0 tI 0 rfl;obtain⟨L,h1,F⟩:=a 1 tI 1 rfl;obtain⟨M,h2,G⟩:=a 2 tI 2 rfl;obtain⟨N,h3,H⟩:=a 3 tI 3 rfl;obtain⟨O,q,I⟩:=a 4 tI 4 rfl;obtain⟨Q,h5,J⟩:=a 5 tI 5 rfl;obtain⟨R,r,b⟩:=a 6 tEvs 6 rfl;rw[T.int1]at h0 h1 h2 h3 q h5;rw[T.evs1]at r;obtain⟨u,d,_,_⟩:=DataW.trod_int T.int h0;obtain⟨v,e,_,_⟩:=DataW.trod_int T.int h1;obtain⟨w,g,_,_⟩:=DataW.trod_int T.int h2;obtain⟨z,i,_,_⟩:=DataW.trod_int T.int h3;obtain⟨A,j,_,_⟩:=DataW.trod_int T.int q;obtain⟨B,k,_,_⟩:=DataW.trod_int T.int h5;obtain⟨p,n,c,l,o,C,s⟩:=evs_of_trod T b r;simp at d e g i j k o;subst d;subst e;subst g;subst i;subst j;subst k;subst o;exact⟨⟨p,n,c⟩,⟨u,v,w,z,A,B,l⟩,rfl,C,s⟩
theorem treaty_arg(T:TreatyTy P tI tIs tK tEv tEvs tFile){r:Reach}{b0:Nat}{v:Value}{d:DataW H}{ps:List MemPlace}
 (hv:Value.okWide P W r b0 tFile v)(b:Light P tFile d)(h:DataW.Trod enc P W base sp held tFile v d ps):∃ f y,v=treatyV f y/\TreatyR (getW W) f y:=by
 obtain⟨fs,hu,_⟩:=T.file;obtain⟨cs,rfl,_⟩:=WideShapes.okWide_struct hu hv;obtain⟨fuel,a⟩:=h;obtain⟨f,y,e,hr⟩:=treaty_of_trod T b a;exact⟨f,y,agg_of e,hr⟩
end
end
section
open Go.ChangeShapes Go.RowKit
theorem trodAll2{H:Type}{enc:TypeId×Value->H}{P:Program}{w:World}{base:Nat}{spare:Nat->Bool}{held:Bool}{t0 t1:TypeId}{args:Array Value}{ds:List (DataW H)}{ps:List MemPlace}(h:DataW.TrodAll enc P w base spare held [t0,t1] args.toList ds ps) :
  ∃ v0 v1 d0 d1 a b,args=#[v0,v1]/\ds=[d0,d1]/\ps=a++b/\DataW.Trod enc P w base spare held t0 v0 d0 a/\DataW.Trod enc P w base spare held t1 v1 d1 b:=by
 obtain⟨v0,j,d0,g,a,l,hargs,rfl,rfl,c,e⟩:=trodAll_cons h;obtain⟨v1,k,d1,i,b,m,rfl,rfl,rfl,d,f⟩:=trodAll_cons e;obtain⟨rfl,rfl,rfl⟩:=trodAll_nil f;exact⟨v0,v1,d0,d1,a,b,by cases args;simp_all,rfl,by simp,c,d⟩
end
end Go.TM
