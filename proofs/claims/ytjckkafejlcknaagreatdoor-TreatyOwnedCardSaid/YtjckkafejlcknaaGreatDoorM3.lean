/- Contracts and laws for the proof, joined by a program. No condition. -/
import Derived.Test.YtjckkafejlcknaaGreatDoorM2
set_option linter.all false
noncomputable section
open Go Go.Conc Go.TM Go.Proofs
open Go.IntKind (wrap)
namespace Go.TM
section
open Go.ChangeShapes Go.RowKit
theorem trodAll_below{H:Type}{enc:TypeId×Value->H}{P:Program}(hl:laidOutB P=true){W W':World}(hb:Below W.heap.size W W'):∀ {ts:List TypeId} {vs:List Value} {ds:List (DataW H)} {ps:List MemPlace},
  (∀ t∈ts,P.readableRec t=true/\t<P.types.size)->DataW.TrodAll enc P W 0 (fun _=>true) true ts vs ds ps->(∀ x∈ps,x.block<W.heap.size) ->
  DataW.TrodAll enc P W' 0 (fun b=>decide (b<W.heap.size)) true ts vs ds ps
 | [],[],[],_,_,h,_=>h
 | t::ts,v::vs,d::ds,_,hr,h,hlt=>by
  obtain⟨p,q,h1,h2,rfl⟩:=h;exact⟨p,q,Below.trod hl (hr t (by simp)).1 (hr t (by simp)).2 h1 hb (fun x hx=>hlt x (by simp[hx])),trodAll_below hl hb (fun t' ht=>hr t' (by simp[ht])) h2 (fun x hx=>hlt x (by simp[hx])),rfl⟩
 | [],[],_::_,_,_,h,_=>h.elim
 | [],_::_,_,_,_,h,_=>by cases h
 | _::_,[],_,_,_,h,_=>by cases h
 | _::_,_::_,[],_,_,h,_=>h.elim
section
variable {H:Type} {enc:TypeId×Value->H}
theorem row_leaving{C:Checked}{os:Os}{f:FuncId}{fn:Func}{s:ChangeSpec}{l:List (String×DataW Unit)}{tb:TypeId}
 (own:ownKnob C.prog.godebug=none)(started:os.Started)(hfn:C.prog.funcs[f]?=some fn)(hin:C.prog.inits.idxOf? f=none)(hv:s.vars=[])(lo:laidOutB C.prog=true)
 (hr:∀ t∈fn.params.toList,C.prog.readableRec t=true/\t<C.prog.types.size)(hres:fn.resultTypes=#[tb])(hb:C.prog.underlying tb=some .bool)
 (hs:∀ ds:List (DataW H),ds.length=fn.params.size->s.fn H ds={ results:=[.lit (.bool true)],args:=ds })
 (witness:∃ (w:World) (tape:Tape) (i:Input),w.os=os/\(w.forCall tape i).Shaped C.prog/\i.vars=[]/\Input.okWide C.prog (w.forCall tape i) .any w.heap.size f i /\
   ((s.pre enc C.prog fn [] false (w.forCall tape i).memory i.args/\laidMetH C.prog l (w.forCall tape i).memory)/\sizedMet enc C.prog fn (OpenSpec.ofChange s) false (w.forCall tape i).memory i.args)/\({}:Assume).holds C.prog (lone (Frame.enter C.prog f i.args .normal) [] (w.forCall tape i)))
 (runs:∀ (W:World) (base:Nat) (args:Array Value) (ds:List (DataW H)) (ps:List MemPlace),(∀ (j:Nat) t v,fn.params[j]?=some t->args[j]?=some v->Value.okWide C.prog W .any base t v) ->
   DataW.TrodAll enc C.prog W 0 (fun _=>true) true fn.params.toList args.toList ds ps->(∀ (j:Nat) t d,fn.params.toList[j]?=some t->ds[j]?=some d->Light C.prog t d)->laidMetH C.prog l W->FWK XT C.prog .normal f args ⟨getW W,[],[],[]⟩ fun r h'=>r=.bool true/\h'.pend=[]) :
  ReturnsInLeavingWide {} C os f .any (fun w args=>(s.pre enc C.prog fn [] false w args/\laidMetH C.prog l w)/\sizedMet enc C.prog fn (OpenSpec.ofChange s) false w args) (s.post enc C.prog fn false true false false):=by
 refine returnsInLeavingWide_of_good own started witness ?_;intro w tape i _ _ _ hok hpre _;obtain⟨_,_,_,fn',hfn',_,_,_,_,hval⟩:=hok;have e:fn'=fn:=Option.some.inj (hfn'.symm.trans hfn);subst e;obtain⟨⟨⟨ds,gs,before,hw,_⟩,hx⟩,hz⟩:=hpre;have hz':=hz.weights hw;have hw':=DataW.Whole.of_heap (w':=w.forCall tape i) (by rfl) hw;have hx':laidMetH C.prog l (w.forCall tape i):=laidMetH.of_heap (by rfl) hx;generalize w.forCall tape i=W at hval hw' hx' ⊢;have hW':=hw';obtain⟨p,q,hA,hV,rfl,_,_⟩:=hw';rw[hv]at hV;obtain⟨rfl,rfl⟩:=trodVars_none hV;have hlight:∀ (j:Nat) t d,fn'.params.toList[j]?=some t->ds[j]?=some d->Light C.prog t d:=by
  intro j t d ht hd n hn;have hm:=DataW.weights_mem_each (P:=C.prog) (ts:=fn'.params.toList++s.plain.varTypes C.prog) (ds:=ds++[]) (j:=j) (by rw[List.getElem?_append_left (List.getElem?_eq_some_iff.1 ht).1];exact ht) (by rw[List.append_nil];exact hd) n hn;have:=List.all_eq_true.1 hz' n hm;simpa using this
 have hlt:∀ x∈p,x.block<W.heap.size:=fun x hx=>by simpa using hW'.lt x (by simpa using hx)
 have hlen:ds.length=fn'.params.size:=by
  have:∀ {ts:List TypeId} {vs:List Value} {ds:List (DataW H)} {ps:List MemPlace},DataW.TrodAll enc C.prog W 0 (fun _=>true) true ts vs ds ps->ds.length=ts.length:=by
   intro ts
   induction ts with
   | nil=>intro vs ds ps h;cases vs<;>cases ds<;>first|rfl|exact h.elim
   | cons t ts ih =>
    intro vs ds ps h;cases vs with
    | nil=>exact h.elim
    | cons v vs =>
     cases ds with
     | nil=>exact h.elim
     | cons d ds=>obtain⟨_,_,_,h2,_⟩:=h;simp[ih h2]
  simpa using this hA
 have hsf:s.fn H (ds++[])={ results:=[.lit (.bool true)],args:=ds }:=by rw[List.append_nil];exact hs ds hlen
 exact run_well (Φ:=fun v w'=>s.post enc C.prog fn' false true false false W.blind i.args v w'.blind) (getW_fits W) (getW_no W) (getW_whole W) hin (runs W _ i.args ds p hval hA hlight hx') (by
  rintro v h' ⟨rfl,hp⟩;refine⟨hp,fun w' _ hk=>ChangeSpec.post_blind ⟨ds,[],_,[],p,[],hW',?_,?_,?_,hk.below.frame _,fun h=>by cases h⟩⟩
  ·rw[hsf,hres];exact trodAll_mk1 (shut_bool hb true)
  ·rw[hsf];exact trodAll_below lo hk.below hr hA hlt
  ·rw[hsf,hv];rfl)
end
theorem card_goes{p:Pinned}{s:OpenSpec}{c:OpenClaim}(kinds:List LaidKind)(tests:Bool)(har:Bool×String)(lk:Bool)
 (hc:c.holds p s)(hw:c.wfByText s=true)(htie:c.laidByTextAt .later p kinds tests)
 (hst:c.start=.entering)(hnb:c.noBlocks=false/\c.again=false)(hm:p.checked.prog.mainIs=some (har.1,har.2.toList))(hn:(!har.1&&har.2.isEmpty&&!lk)=false)
 (hl:∀ f fn,p.checked.prog.funcNamed c.func=some f->p.checked.prog.funcs[f]?=some fn->lk=p.checked.prog.looks []/\∀ (j:Nat) t,fn.params[j]?=some t->p.checked.prog.wantsStandIn t=false)
 (hg:true=c.goesBy p.checked.prog) :
  Claim7.holds p (.plain s) { stood:={ row:=c,standIns:=[],harness:=har,looks:=lk },kinds:=[],alts:=[],goes:=true,laidByText:=true,laidKinds:=kinds,laidTests:=tests,laidLooks:=.later }:=by
 have h6:∀ r:OpenClaim,Claim7.isSixth { stood:={ row:=r,standIns:=[],harness:=har,looks:=lk },kinds:=[] }=false:=fun r=>by simpa[Claim7.isSixth] using hn
 refine⟨?_,(fun D hD=>by cases hD),htie,(fun h=>by cases h),hg⟩;exact Claim7.tied_new_at .later kinds tests (Claim7.new_of_sixth hc har lk hst hnb hm (h6 c) hl) hw
end
section
section
variable {H:Type} {enc:TypeId×Value->H} {P:Program} {W:World} {base:Nat} {sp:Nat->Bool} {held:Bool} {fuel:Nat} {t:TypeId} {cs:List Value} {x:DataW H×List MemPlace}
theorem sl_of_trodR{α:Type}{E:Cells->Addr->α->Prop}{e:TypeId}{k:Nat}(ht:P.underlying t=some (.slice e))(hk:P.cellsOf e=k)(hbt:0<P.bytesOf e)(hz:Light P t x.1)
 (hE:∀ (n:Nat) (a:Addr) cs y,cs.length=k->(∀ (i:Nat) v,cs[i]?=some v->(getW W).cell? (a.add i)=some v)->DataW.trod enc P W base sp held n e cs=some y->Light P e y.1->∃ z,E (getW W) a z)
 (h:DataW.trod enc P W base sp held fuel t cs=some x):∃ p n c l,cs=[.slice p n c]/\n<=c/\Sl E k (getW W) p n l:=by
 rcases DataW.trod_slice ht h with⟨rfl,_⟩|⟨a,len,cap,elems,rest,n,_,rfl,rfl,_,hl,hm,hlen,hel,_⟩
 ·exact⟨none,0,0,[],rfl,Nat.le_refl _,Sl.nil⟩
 ·have hbig:len<4611686018427387904:=by
   have:=hz ((elems.length+rest.length)*P.bytesOf e) (by simp[DataW.weights,ht]);have h2:elems.length<=(elems.length+rest.length)*P.bytesOf e:=Nat.le_trans (Nat.le_add_right _ _) (Nat.le_mul_of_pos_right _ hbt);simp only[reachBytes]at this;omega
  have key:∀ i:Fin len,∃ z,E (getW W) (a.add (i.1*k)) z:=by
   rintro⟨i,hi⟩;have h1:=hel i hi;rw[List.getElem?_eq_getElem (by omega:i<elems.length)]at h1;obtain⟨cs',hc,hy⟩:=Option.bind_eq_some_iff.1 h1;obtain⟨c1,c2⟩:=cells_at hc;rw[hk]at c1 c2;refine hE _ _ _ _ c1 c2 hy fun k hk'=>hz k ?_;simp only[DataW.weights,ht,List.mem_cons,List.mem_append];exact .inr (.inl (weightsAll_mem (List.mem_map.2 ⟨_,List.getElem_mem _,rfl⟩) k hk'))
  have hch:=Classical.axiomOfChoice key;obtain⟨g,hg⟩:=hch;refine⟨some a,len,cap,List.ofFn g,rfl,hl,by simp,?_,fun i z hz=>⟨a,rfl,?_⟩⟩
  ·simpa using hbig
  ·rw[List.getElem?_ofFn]at hz;split at hz
   ·rename_i hi;cases hz;exact hg ⟨i,hi⟩
   ·cases hz
variable {tI tIs tSpan tSpans tPaper tPapers tReq tReqs tFile:TypeId}
end
end
section
variable {P:Program} {E:Halt->Cells->Prop} {h:Cells}
theorem lwp_newRow{Q:Addr->Cells->Prop}{el:TypeId}{cells:Array Value}(hq:∀ r,h r=none->Q ⟨r,0,none⟩ (h.upd r (true,.cells cells el (0,0)))):Sem.lwp P (newRow el cells) Q E h:=fun r hr=>hq r hr
theorem lwp_buildSlice{Q:Value->Cells->Prop}{t el:TypeId}{n:Nat}{parts:Array (Nat×Value)}{inf:TypeInfo}{z:Value}{cells:Array Value}(hu:P.underlying t=some (.slice el))(hi:P.info? el=some inf)(hz:inf.zero=some z)(hn:n*inf.size<=2^24)(hpos:n*inf.size≠0)
 (hf:Instr.fill (fun i=>some (i*inf.size,inf.size)) ((Array.range (n*inf.size)).map (z.cells[·%z.cells.size]!)) parts.toList=some cells)(hq:∀ r,h r=none->Q (.slice (some ⟨r,0,none⟩) n n) (h.upd r (true,.cells cells el (0,0)))):Sem.lwp P (Instr.buildSlice t n parts) Q E h:=by
 unfold Instr.buildSlice;rw[lwp_bind,lwp_underlying hu];simp only[];simp only[lwp_bind,lwp_sizeOf hi,if_neg (Nat.not_lt.2 hn),lwp_pure,if_neg hpos,lwp_zeroValue hi hz,hf];exact lwp_newRow hq
def OwnRow(el:TypeId)(k:Nat)(h:Cells)(p:Option Addr)(n c:Nat)(vs:List Value):Prop :=
 vs.length=n*k/\((p=none/\n=0/\c=0)\/∃ (r:Nat) (cs:Array Value),p=some ⟨r,0,none⟩/\h r=some (true,.cells cs el (0,0))/\cs.size=c*k/\n<=c/\∀ (j:Nat) (v:Value),vs[j]?=some v->cs[j]?=some v)
theorem OwnRow.nil{el:TypeId}{k:Nat}:OwnRow el k h none 0 0 []:=⟨by simp,.inl ⟨rfl,rfl,rfl⟩⟩
def KeptBut(p:Option Addr)(h h':Cells):Prop:=∀ r x,h r=some x->(∀ a,p=some a->a.block≠r)->h' r=some x
theorem growBy_le(N:Nat):∀ (rounds c:Nat),c<=2*N+400->Builtin.growBy N rounds c<=2*N+400:=by
 intro rounds
 induction rounds with
 | zero=>intro c hc;exact hc
 | succ k ih =>
  intro c hc;unfold Builtin.growBy;split
  ·exact hc
  ·exact ih _ (by omega)
theorem nextslicecap_le{N c:Nat}(hc:c<N):Builtin.nextslicecap N c<=2*N+400:=by
 unfold Builtin.nextslicecap;split
 ·omega
 ·split
  ·omega
  ·exact growBy_le N 4 c (by omega)
theorem setMany_get{vs:List Value}{cs:Array Value}{o:Nat}(ho:o+vs.length<=cs.size)(i:Nat):(setMany cs o vs)[i]?=if o<=i/\i<o+vs.length then vs[i-o]? else cs[i]?:=get_setMany vs cs o ho i
theorem lwp_loads{Q:Array Value->Cells->Prop}{l:List Value}{a:Addr}{n:Nat}(hn:l.length=n)(hc:∀ (t:Nat) v,l[t]?=some v->h.cell? (a.add t)=some v)(hq:Q l.toArray h):Sem.lwp P (loadCells a n) Q E h:=by
 unfold loadCells;subst hn;refine lwp_loadCells l a 0 #[] h (fun t v ht=>by rw[Nat.zero_add];exact hc t v ht) ?_;rw[Array.empty_append];exact hq
theorem lwp_append{Q:Value->Cells->Prop}{ts:Array TypeId}{ty sT xT el xe:TypeId}{inf:TypeInfo}{z:Value}{p:Option Addr}{n c m mc:Nat}{b:Addr}{vs ws:List Value}(h0:ts[0]?=some sT)(h1:ts[1]?=some xT)(hu:P.underlying sT=some (.slice el))(hx:P.underlying xT=some (.slice xe))
 (hi:P.info? el=some inf)(hz:inf.zero=some z)(hsz:z.cells.size=inf.size)(hb:inf.bytes<=1024)(hnm:n+m<=2^30)(own:OwnRow el inf.size h p n c vs)(hl:ws.length=m*inf.size)(hc:∀ (j:Nat) v,ws[j]?=some v->h.cell? (b.add j)=some v)(one:∀ v∈ws,isOne v=true)(hm:0<m)
 (hq:∀ p' c' h',OwnRow el inf.size h' p' (n+m) c' (vs++ws)->KeptBut p h h'->(p'=p\/∃ r,p'=some ⟨r,0,none⟩/\h r=none)->Q (.slice p' (n+m) c') h'):Sem.lwp P (Builtin.append_ ts ty #[.slice p n c,.slice (some b) m mc]) Q E h:=by
 unfold Builtin.append_;rw[h0,h1];simp only[List.getElem?_toArray,List.getElem?_cons_zero,List.getElem?_cons_succ];simp only[lwp_bind,lwp_underlying hu,lwp_sizeOf hi,lwp_underlying hx,lwp_pure,Bool.false_eq_true,if_false,Bool.not_false,if_true,Builtin.lenOf];obtain⟨hvl,hown⟩:=own;by_cases hroom:n+m<=c
 ·simp only[if_pos hroom,lwp_bind,Builtin.firstCells];refine lwp_loads (l:=ws) hl hc ?_;rcases hown with⟨rfl,rfl,rfl⟩|⟨r,cs,rfl,hr,hcs,hnc,hv⟩
  ·omega
  ·simp only[];have hle:n*inf.size+ws.length<=cs.size:=by rw[hl,hcs,<- Nat.add_mul];exact Nat.mul_le_mul_right _ hroom
   have ha:Addr.add ⟨r,0,none⟩ (n*inf.size)=⟨r,n*inf.size,none⟩:=by unfold Addr.add;split<;>simp_all
   rw[ha];rw[lwp_bind];refine lwp_storeCells ws 0 h r (n*inf.size) cs el hr (by omega) one ?_;rw[lwp_pure];refine hq _ _ _ ⟨by simp[hvl,hl,Nat.add_mul],.inr ⟨r,_,rfl,Cells.upd_self _ _ _,?_,hroom,?_⟩⟩ ?_ (.inl rfl)
   ·rw[size_setMany];exact hcs
   ·intro j v hj;rw[setMany_get (by omega)];by_cases hlt:j<vs.length
    ·rw[if_neg (by omega)];rw[List.getElem?_append_left hlt]at hj;exact hv j v hj
    ·rw[List.getElem?_append_right (by omega)]at hj;have hj':j-vs.length<ws.length:=(List.getElem?_eq_some_iff.1 hj).1;rw[if_pos (by omega),<- hj];congr 1;omega
   ·intro r' x hx' hne;have:r'≠r:=fun e=>hne _ rfl e.symm;rw[Cells.upd_ne _ _ this];exact hx'
 ·have hnot:¬ ((((n+m:Nat):Int)>IntKind.i64.max)/\((false:Bool)=true\/inf.bytes=0)):=by
   rintro⟨h1,_⟩;have e:IntKind.i64.max=9223372036854775807:=rfl;rw[e]at h1;omega
  have hcap:=nextslicecap_le (Nat.lt_of_not_le hroom);have hbytes:¬ (Builtin.nextslicecap (n+m) c*inf.bytes>2^48):=by
   have:=Nat.mul_le_mul hcap hb;have h2:(2*(n+m)+400)*1024<=(2*2^30+400)*1024:=Nat.mul_le_mul_right _ (by omega);have:(2*2^30+400)*1024<=2^48:=by decide
   omega
  have hnot':¬ ((((n+m:Nat):Int)>IntKind.i64.max)/\(False\/inf.bytes=0)):=fun h=>hnot ⟨h.1,h.2.imp_left False.elim⟩;simp only[if_neg hroom,lwp_bind,lwp_typeInfo hi,if_neg hnot',if_neg hbytes,lwp_pure];have hch:∀ {K:Nat->Cells->Prop},(∀ a,n+m<=a->K a h)->Sem.lwp P (choose (Question.appendCap (n+m) c el)) K E h:=by
   intro K hK;show (if _ then _ else _);split
   ·rename_i hf;simp[Question.forced]at hf
   ·intro t;exact hK _ (Nat.le_add_right _ _)
  refine hch fun a ha=>?_;have hroom':∀ {K:Unit->Cells->Prop},K () h->Sem.lwp P (askRoom (a*inf.bytes)) K E h:=by
   intro K hK;unfold askRoom;split
   ·exact⟨rfl,hK⟩
   ·exact hK
  refine hroom' ?_;have hold:∀ {K:Array Value->Cells->Prop},(∀ old:Array Value,old.toList=vs->K old h)->Sem.lwp P (Builtin.firstCells inf.size n (Value.slice p n c)) K E h:=by
   intro K hK;rcases hown with⟨rfl,rfl,rfl⟩|⟨r,cs,rfl,hr,hcs,hnc,hv⟩
   ·have:vs=[]:=List.eq_nil_of_length_eq_zero (by rw[hvl];simp);simp only[Builtin.firstCells,lwp_pure];exact hK #[] (by rw[this])
   ·simp only[Builtin.firstCells];refine lwp_loads (l:=vs) hvl (fun j v hj=>?_) (hK _ rfl);have e:Addr.add ⟨r,0,none⟩ j=⟨r,j,none⟩:=by unfold Addr.add;split<;>simp_all
    rw[e];simp only[Cells.cell?,hr,Option.isSome_none,Bool.false_eq_true,if_false];exact hv j v hj
  refine hold fun old hold=>?_;simp only[Builtin.firstCells];refine lwp_loads (l:=ws) hl hc ?_;simp only[lwp_zeroValue hi hz];refine lwp_newRow fun r hr=>?_;have hzs:(Builtin.zeroCells z.cells (a-(n+m))).size=(a-(n+m))*inf.size:=by simp[Builtin.zeroCells,hsz]
  refine hq _ _ _ ⟨by simp[hvl,hl,Nat.add_mul],.inr ⟨r,_,rfl,Cells.upd_self _ _ _,?_,ha,?_⟩⟩ ?_ (.inr ⟨r,rfl,hr⟩)
  ·have e1:old.size=n*inf.size:=by rw[<- Array.length_toList,hold,hvl]
   have e2:(ws.toArray).size=m*inf.size:=by simp[hl]
   simp only[Array.size_append,e1,e2,hzs];rw[<- Nat.add_mul,<- Nat.add_mul];congr 1;omega
  ·intro j v hj;have hlen:j<(vs++ws).length:=(List.getElem?_eq_some_iff.1 hj).1;rw[<- Array.getElem?_toList,Array.toList_append,Array.toList_append,hold,List.getElem?_append_left (by simpa using hlen)];exact hj
  ·intro r' x hx' _;have:r'≠r:=by rintro rfl;rw[hr]at hx';cases hx'
   rw[Cells.upd_ne _ _ this];exact hx'
theorem info_of{t:TypeId}{s b:Nat}{z:Option Value}(h:(P.info? t).map (fun i=>(i.size,i.bytes,i.zero))=some (s,b,z)):∃ i,P.info? t=some i/\i.size=s/\i.bytes=b/\i.zero=z:=by
 cases hi:P.info? t with
 | none=>rw[hi]at h;cases h
 | some i=>rw[hi]at h;simp only[Option.map_some,Option.some.injEq,Prod.mk.injEq]at h;exact⟨i,rfl,h.1,h.2.1,h.2.2⟩
theorem lwp_buildS{Q:Value->Cells->Prop}{t el:TypeId}{n s b:Nat}{parts:Array (Nat×Value)}{z:Value}{cells:Array Value}(hu:P.underlying t=some (.slice el))(hi:(P.info? el).map (fun i=>(i.size,i.bytes,i.zero))=some (s,b,some z))(hn:n*s<=2^24)(hpos:n*s≠0)
 (hf:Instr.fill (fun i=>some (i*s,s)) ((Array.range (n*s)).map (z.cells[·%z.cells.size]!)) parts.toList=some cells)(hq:∀ r,h r=none->Q (.slice (some ⟨r,0,none⟩) n n) (h.upd r (true,.cells cells el (0,0)))):Sem.lwp P (Instr.buildSlice t n parts) Q E h:=by
 obtain⟨i,h1,h2,_,h4⟩:=info_of hi;subst h2;exact lwp_buildSlice hu h1 h4 hn hpos hf hq
theorem lwp_appendS{Q:Value->Cells->Prop}{ts:Array TypeId}{ty sT xT el xe:TypeId}{s by_:Nat}{z:Value}{p:Option Addr}{n c m mc:Nat}{b:Addr}{vs ws:List Value}(h0:ts[0]?=some sT)(h1:ts[1]?=some xT)(hu:P.underlying sT=some (.slice el))(hx:P.underlying xT=some (.slice xe))
 (hi:(P.info? el).map (fun i=>(i.size,i.bytes,i.zero))=some (s,by_,some z))(hsz:z.cells.size=s)(hb:by_<=1024)(hnm:n+m<=2^30)(own:OwnRow el s h p n c vs)(hl:ws.length=m*s)(hc:∀ (j:Nat) v,ws[j]?=some v->h.cell? (b.add j)=some v)(one:∀ v∈ws,isOne v=true)(hm:0<m)
 (hq:∀ p' c' h',OwnRow el s h' p' (n+m) c' (vs++ws)->KeptBut p h h'->(p'=p\/∃ r,p'=some ⟨r,0,none⟩/\h r=none)->Q (.slice p' (n+m) c') h'):Sem.lwp P (Builtin.append_ ts ty #[.slice p n c,.slice (some b) m mc]) Q E h:=by
 obtain⟨i,g1,g2,g3,g4⟩:=info_of hi;subst g2;subst g3;exact lwp_append h0 h1 hu hx g1 g4 hsz hb hnm own hl hc one hm hq
theorem LH.upd_le{h:LH}{r:Nat}{x:Bool×Obj}(hr:h.get r=none):h.le { h with get:=h.get.upd r x }:=⟨Cells.le_upd x hr,rfl,rfl,rfl⟩
theorem cell_upd{r i:Nat}{m:Bool}{cs:Array Value}{el:TypeId}{f:Nat×Nat}{v:Value}(hv:cs[i]?=some v):(h.upd r (m,.cells cs el f)).cell? ⟨r,i,none⟩=some v:=by
 simp[Cells.cell?,Cells.upd_self,hv]
theorem add_plain(r o i:Nat):Addr.add ⟨r,o,none⟩ i=⟨r,o+i,none⟩:=by unfold Addr.add;split<;>simp_all
theorem t_build{X:XP}{Q:Leaf->LH->Prop}{h:LH}{k:Value->T}{t el:TypeId}{n s b:Nat}{parts:Array (Nat×Value)}{z:Value}{cells:Array Value}(hu:P.underlying t=some (.slice el))(hi:(P.info? el).map (fun i=>(i.size,i.bytes,i.zero))=some (s,b,some z))(hn:n*s<=2^24)(hpos:n*s≠0)
 (hf:Instr.fill (fun i=>some (i*s,s)) ((Array.range (n*s)).map (z.cells[·%z.cells.size]!)) parts.toList=some cells)
 (hk:∀ r,h.get r=none->(k (.slice (some ⟨r,0,none⟩) n n)).wp X P Q { h with get:=h.get.upd r (true,.cells cells el (0,0)) }):(T.sem false (Instr.buildSlice t n parts) k).wp X P Q h :=
 t_sem (A:=fun v h'=>∃ r,h.get r=none/\v=.slice (some ⟨r,0,none⟩) n n/\h'=h.get.upd r (true,.cells cells el (0,0))) (lwp_buildS hu hi hn hpos hf fun r hr=>⟨r,hr,rfl,rfl⟩) (by rintro v h' ⟨r,hr,rfl,rfl⟩;exact hk r hr)
theorem t_append{X:XP}{Q:Leaf->LH->Prop}{h:LH}{k:Value->T}{ts:Array TypeId}{ty sT xT el xe:TypeId}{s by_:Nat}{z:Value}{p:Option Addr}{n c m mc:Nat}{b:Addr}{vs ws:List Value}(h0:ts[0]?=some sT)(h1:ts[1]?=some xT)(hu:P.underlying sT=some (.slice el))(hx:P.underlying xT=some (.slice xe))
 (hi:(P.info? el).map (fun i=>(i.size,i.bytes,i.zero))=some (s,by_,some z))(hsz:z.cells.size=s)(hb:by_<=1024)(hnm:n+m<=2^30)(own:OwnRow el s h.get p n c vs)(hl:ws.length=m*s)(hc:∀ (j:Nat) v,ws[j]?=some v->h.get.cell? (b.add j)=some v)(one:∀ v∈ws,isOne v=true)(hm:0<m)
 (hk:∀ p' c' h',OwnRow el s h' p' (n+m) c' (vs++ws)->KeptBut p h.get h'->(p'=p\/∃ r,p'=some ⟨r,0,none⟩/\h.get r=none)->(k (.slice p' (n+m) c')).wp X P Q { h with get:=h' }):(T.sem false (Builtin.append_ ts ty #[.slice p n c,.slice (some b) m mc]) k).wp X P Q h :=
 t_sem (A:=fun v h'=>∃ p' c',v=.slice p' (n+m) c'/\OwnRow el s h' p' (n+m) c' (vs++ws)/\KeptBut p h.get h'/\(p'=p\/∃ r,p'=some ⟨r,0,none⟩/\h.get r=none)) (lwp_appendS h0 h1 hu hx hi hsz hb hnm own hl hc one hm fun p' c' h' a b c=>⟨p',c',rfl,a,b,c⟩)
  (by rintro v h' ⟨p',c',rfl,a,b,c⟩;exact hk p' c' h' a b c)
theorem lwp_index{Q:Value->Cells->Prop}{t el:TypeId}{d:TypeDesc}{len b:Nat}{z:Option Value}{cs:Array Value}{k:IntKind}{i:Nat}{v:Value}(hu:P.underlying t=some (.array len el))(hi:(P.info? el).map (fun i=>(i.size,i.bytes,i.zero))=some (1,b,z))(he:P.underlying el=some d)(ha:isAggT P el=false)
 (hlt:i<len)(hv:cs[i]?=some v)(hq:Q v h):Sem.lwp P (Instr.index t (.agg cs) (.int k i)) Q E h:=by
 obtain⟨j,g1,g2,_,_⟩:=info_of hi;unfold Instr.index;simp only[asIntOf,lwp_bind,lwp_pure,lwp_underlying hu];rw[if_pos (by omega)];simp only[lwp_bind,lwp_sizeOf g1,part,lwp_isAgg_false he ha,g2,Int.toNat_natCast,Nat.mul_one,Bool.false_eq_true,if_false,hv];exact hq
theorem t_index{X:XP}{Q:Leaf->LH->Prop}{h:LH}{K:Value->T}{t el:TypeId}{d:TypeDesc}{len b:Nat}{z:Option Value}{cs:Array Value}{k:IntKind}{i:Nat}{v:Value}(hu:P.underlying t=some (.array len el))(hi:(P.info? el).map (fun i=>(i.size,i.bytes,i.zero))=some (1,b,z))(he:P.underlying el=some d)(ha:isAggT P el=false)
 (hlt:i<len)(hv:cs[i]?=some v)(hk:(K v).wp X P Q h):(T.sem false (Instr.index t (.agg cs) (.int k i)) K).wp X P Q h :=
 t_sem (A:=fun w h'=>w=v/\h'=h.get) (lwp_index hu hi he ha hlt hv ⟨rfl,rfl⟩) (by rintro w h' ⟨rfl,rfl⟩;exact hk)
end
section
variable {P:Program} {E:Halt->Cells->Prop} {h:Cells}
def isI64(P:Program)(t:TypeId):Bool:=match P.underlying t with
 | some (.int .i64)=>true
 | _=>false
def twoInts(P:Program)(t:TypeId):Bool:=match P.underlying t with
 | some (.struct fs)=>(match fs.toList with
  | [a, b] => a.name != "_" && b.name != "_" && isI64 P a.type && isI64 P b.type && Nat.beq a.offset 0 && Nat.beq b.offset 1
  | _=>false)&&!P.stoodInHeld t
 | _=>false
theorem isI64_und{t:TypeId}(ht:isI64 P t=true):P.underlying t=some (.int .i64):=by
 unfold isI64 at ht;split at ht
 ·assumption
 ·cases ht
theorem isI64_agg{t:TypeId}(ht:isI64 P t=true):isAggT P t=false:=by
 unfold isAggT;rw[isI64_und ht]
theorem twoInts_spec{t : TypeId}(ht : twoInts P t = true) : ∃ a b : Field, P.underlying t = some (.struct #[a, b]) /\ a.name ≠ "_" /\ b.name ≠ "_" /\ isI64 P a.type = true /\ isI64 P b.type = true /\ a.offset = 0 /\ b.offset = 1 /\ P.stoodInHeld t = false := by
 unfold twoInts at ht;split at ht
 ·rename_i fs hu;simp only[Bool.and_eq_true,Bool.not_eq_true']at ht;obtain⟨h1,h2⟩:=ht;split at h1
  ·rename_i a b hfs;simp only[Bool.and_eq_true,bne_iff_ne]at h1;obtain⟨⟨⟨⟨⟨h3,h4⟩,h5⟩,h6⟩,h7⟩,h8⟩:=h1;have:fs=#[a,b]:=by rw[<- hfs]
   exact⟨a,b,by rw[hu,this],h3,h4,h5,h6,nbeq_true h7,nbeq_true h8,h2⟩
  ·cases h1
 ·cases ht
theorem lwp_partI{Q:Value->Cells->Prop}{t:TypeId}{cs:Array Value}{o:Nat}{v:Value}(ht:isI64 P t=true)(hv:cs[o]?=some v)(hq:Q v h):Sem.lwp P (part t cs o) Q E h:=by
 unfold part;rw[lwp_bind,lwp_isAgg_false (isI64_und ht) (isI64_agg ht)];simp only[Bool.false_eq_true,if_false,hv];exact hq
theorem lwp_equalI{Q:Bool->Cells->Prop}{t:TypeId}{d:Nat}{a b:Int}(ht:isI64 P t=true)(hq:Q (a==b) h):Sem.lwp P (Op.equalIn (d+1) t (.int .i64 a) (.int .i64 b)) Q E h:=by
 unfold Op.equalIn;rw[lwp_bind,lwp_underlying (isI64_und ht)];exact hq
theorem lwp_equal2{Q:Bool->Cells->Prop}{t:TypeId}{a b c d:Int}(ht:twoInts P t=true)(hq:Q (decide (a=c/\b=d)) h):Sem.lwp P (Op.equal t (.agg #[a,b]) (.agg #[c,d])) Q E h:=by
 obtain⟨f,g,hu,n1,n2,i1,i2,o1,o2,hs⟩:=twoInts_spec ht;unfold Op.equal;have hmd:Op.maxDepth=9998+1+1:=rfl;rw[hmd,Op.equalIn];rw[lwp_bind,lwp_underlying hu];simp only[lwp_bind,lwp_program,hs,Bool.false_eq_true,if_false,List.forIn_toArray,List.forIn_cons,List.forIn_nil,n1,n2,ne_eq,not_false_eq_true,if_true];refine lwp_partI i1 (v:=.int .i64 a) (by rw[o1];rfl) ?_;refine lwp_partI i1 (v:=.int .i64 c) (by rw[o1];rfl) ?_;refine lwp_equalI i1 ?_;by_cases e1:a=c
 ·subst e1;simp only[beq_self_eq_true,Bool.not_true,Bool.false_eq_true,if_false,lwp_pure,lwp_bind];refine lwp_partI i2 (v:=.int .i64 b) (by rw[o2];rfl) ?_;refine lwp_partI i2 (v:=.int .i64 d) (by rw[o2];rfl) ?_;refine lwp_equalI i2 ?_;by_cases e2:b=d
  ·subst e2;simpa[lwp_pure] using hq
  ·have e3:(b==d)=false:=by simpa using e2
   simpa[lwp_pure,e2,e3] using hq
 ·have e3:(a==c)=false:=by simpa using e1
  simpa[lwp_pure,e1,e3] using hq
def IsKey(P:Program)(kt:TypeId)(v:Value):Prop:=(isI64 P kt=true/\∃ n,v=.int .i64 n)\/(twoInts P kt=true/\∃ a b,v=.agg #[.int .i64 a,.int .i64 b])
theorem lwp_checkKey{Q:Unit->Cells->Prop}{e:Bool}{kt:TypeId}{v:Value}(hk:IsKey P kt v)(hq:Q () h):Sem.lwp P (Instr.checkKey e 10000 kt v) Q E h:=by
 have one:∀ {Q:Unit->Cells->Prop} {d:Nat} {t:TypeId} {n:Int},isI64 P t=true->Q () h->Sem.lwp P (Instr.checkKey e (d+1) t (.int .i64 n)) Q E h:=by
  intro Q d t n ht hq;unfold Instr.checkKey;rw[lwp_bind,lwp_underlying (isI64_und ht)];exact hq
 rcases hk with⟨ht,n,rfl⟩|⟨ht,a,b,rfl⟩
 ·exact one (d:=9999) ht hq
 ·obtain⟨f,g,hu,n1,n2,i1,i2,o1,o2,hs⟩:=twoInts_spec ht;rw[show (10000:Nat)=9998+1+1 from rfl,Instr.checkKey];rw[lwp_bind,lwp_underlying hu];simp only[lwp_bind,List.forIn_toArray,List.forIn_cons,List.forIn_nil,n1,n2,ne_eq,not_false_eq_true,if_true,lwp_pure];refine lwp_partI i1 (v:=.int .i64 a) (by rw[o1];rfl) ?_;refine one i1 ?_;refine lwp_partI i2 (v:=.int .i64 b) (by rw[o2];rfl) ?_;exact one i2 hq
theorem findNow_int{t:TypeId}{n:Int}:∀ (es:List MapEntry) (i:Nat),(∀ e∈es,∃ m,e.key=.int .i64 m) ->
  (∃ j e,es[j]?=some e/\e.key=.int .i64 n/\Instr.findNow (.int .i64) (.int .i64 n) es i=some (some (i+j,e.val)))\/((∀ e∈es,e.key≠.int .i64 n)/\Instr.findNow (.int .i64) (.int .i64 n) es i=some none):=by
 intro es
 induction es with
 | nil=>intro i _;exact .inr ⟨fun e he=>by simp at he,rfl⟩
 | cons e es ih =>
  intro i hes;obtain⟨m,hm⟩:=hes e (by simp);unfold Instr.findNow;rw[hm];simp only[Instr.sameNow,if_true];by_cases hnm:n=m
  ·subst hnm;left;refine⟨0,e,rfl,hm,?_⟩;simp
  ·have hb:(n==m)=false:=by simpa using hnm
   rw[hb];simp only[];rcases ih (i+1) (fun e' he'=>hes e' (by simp[he'])) with⟨j,e',h1,h2,h3⟩|⟨h1,h2⟩
   ·left;exact⟨j+1,e',by simpa using h1,h2,by rw[h3];congr 3;omega⟩
   ·right;refine⟨fun e' he'=>?_,h2⟩;rcases List.mem_cons.1 he' with rfl|he'
    ·rw[hm];intro hc;cases hc;exact hnm rfl
    ·exact h1 e' he'
theorem lwp_findAsking{Q:Option (Nat×Value)->Cells->Prop}{kt:TypeId}{a b:Int}(ht:twoInts P kt=true):∀ (es:List MapEntry) (i:Nat),(∀ e∈es,∃ c d,e.key=.agg #[.int .i64 c,.int .i64 d]) ->
  (∀ j e,es[j]?=some e->e.key=.agg #[a,b]->Q (some (i+j,e.val)) h)->((∀ e∈es,e.key≠.agg #[a,b])->Q none h)->Sem.lwp P (Instr.findAsking kt (.agg #[a,b]) es i) Q E h:=by
 intro es
 induction es with
 | nil=>intro i _ _ h2;exact h2 fun e he=>by simp at he
 | cons e es ih =>
  intro i hes h1 h2;obtain⟨c,d,hm⟩:=hes e (by simp);unfold Instr.findAsking;rw[lwp_bind,hm];refine lwp_equal2 ht ?_;by_cases hab:a=c/\b=d
  ·obtain⟨rfl,rfl⟩:=hab;simp only[and_self,decide_true,if_true,lwp_pure];have:=h1 0 e rfl hm;simpa using this
  ·simp only[hab,decide_false,Bool.false_eq_true,if_false];refine ih (i+1) (fun e' he'=>hes e' (by simp[he'])) (fun j e' he' hk=>?_) fun hno=>h2 fun e' he'=>?_
   ·have:=h1 (j+1) e' (by simpa using he') hk;rw[show i+1+j=i+(j+1) by omega];exact this
   ·rcases List.mem_cons.1 he' with rfl|he'
    ·rw[hm];intro hc;simp only[Value.agg.injEq,Array.mk.injEq,List.cons.injEq,Value.int.injEq,and_true,true_and]at hc;exact hab ⟨hc.1.symm,hc.2.symm⟩
    ·exact hno e' he'
theorem lwp_findKey{Q:Option (Nat×Value)->Cells->Prop}{kt:TypeId}{k:Value}{es:List MapEntry}(hk:IsKey P kt k)(hes:∀ e∈es,IsKey P kt e.key)(h1:∀ j e,es[j]?=some e->e.key=k->Q (some (j,e.val)) h)(h2:(∀ e∈es,e.key≠k)->Q none h):Sem.lwp P (Instr.findKey kt k es) Q E h:=by
 unfold Instr.findKey;rcases hk with⟨ht,n,rfl⟩|⟨ht,a,b,rfl⟩
 ·rw[lwp_bind,lwp_underlying (isI64_und ht)];have hes':∀ e∈es,∃ m,e.key=.int .i64 m:=by
   intro e he;rcases hes e he with⟨_,m,hm⟩|⟨ht',_⟩
   ·exact⟨m,hm⟩
   ·obtain⟨f,g,hu,_⟩:=twoInts_spec ht';rw[isI64_und ht]at hu;cases hu
  rcases findNow_int (t:=kt) (n:=n) es 0 hes' with⟨j,e,g1,g2,g3⟩|⟨g1,g2⟩
  ·rw[g3];simp only[lwp_pure];have:=h1 j e g1 g2;simpa using this
  ·rw[g2];exact h2 g1
 ·obtain⟨f,g,hu,_⟩:=twoInts_spec ht;rw[lwp_bind,lwp_underlying hu];have hes':∀ e∈es,∃ c d,e.key=.agg #[.int .i64 c,.int .i64 d]:=by
   intro e he;rcases hes e he with⟨ht',_⟩|⟨_,c,d,hm⟩
   ·rw[isI64_und ht']at hu;cases hu
   ·exact⟨c,d,hm⟩
  cases es with
  | nil=>exact h2 fun e he=>by simp at he
  | cons e es =>
   obtain⟨c,d,hm⟩:=hes' e (by simp);have:Instr.findNow (.struct #[f,g]) (.agg #[.int .i64 a,.int .i64 b]) (e::es) 0=none:=by
    unfold Instr.findNow;rw[hm];rfl
   rw[this];refine lwp_findAsking ht (e::es) 0 hes' (fun j e' he' hk=>?_) h2;have:=h1 j e' he' hk;simpa using this
def MapAt(h:Cells)(m:Nat)(es:Array MapEntry):Prop:=∃ c,h m=some (true,.map es c)
theorem sameBits_key{kt:TypeId}{k:Value}(hk:IsKey P kt k):Instr.sameBits 10000 k k=true:=by
 rcases hk with⟨_,n,rfl⟩|⟨_,a,b,rfl⟩
 ·simp[Instr.sameBits]
 ·rw[show (10000:Nat)=9999+1 from rfl];simp[Instr.sameBits]
variable {X:XP} {Q:Leaf->LH->Prop}
theorem t_makeMap{h:LH}{k:Value->T}{t:TypeId}(hk:∀ r,h.get r=none->(k (.map (some r))).wp X P Q { h with get:=h.get.upd r (true,.map #[] 0) }):(T.sem false (Instr.makeMap t none) k).wp X P Q h:=by
 refine t_sem (A:=fun v h'=>∃ r,h.get r=none/\v=.map (some r)/\h'=h.get.upd r (true,.map #[] 0)) ?_ (by rintro v h' ⟨r,hr,rfl,rfl⟩;exact hk r hr);unfold Instr.makeMap;rw[lwp_bind];intro r hr;exact⟨r,hr,rfl,rfl⟩
theorem t_ne2{h:LH}{K:Value->T}{t:TypeId}{x y:Operand}{a b c d:Int}(ht:twoInts P t=true)(hg:P.eqGuardType P.depth t=false)(hk:(K (.bool (!decide (a=c/\b=d)))).wp X P Q h) :
  (T.sem false (Sem.bind (eqGuard .neq t x y (.agg #[a,b]) (.agg #[c,d])) fun _=>binOp .neq t (.agg #[a,b]) (.agg #[c,d])) K).wp X P Q h:=by
 refine t_sem (A:=fun w h'=>w=.bool (!decide (a=c/\b=d))/\h'=h.get) (Sem.lwp_bind _ _ ?_) (by rintro w h' ⟨rfl,rfl⟩;exact hk);unfold eqGuard;simp only[Bool.not_true,Bool.false_eq_true,if_false,lwp_bind,lwp_program,hg,Bool.not_false,if_true,lwp_pure];unfold binOp;rw[lwp_bind];exact lwp_equal2 ht ⟨rfl,rfl⟩
theorem Hands.g{v:Value}{h₀:LH}{L:List (List Value)}(hH:Hands X P v h₀ L):HandsG X P v h₀ (fun (i:Nat) xs j=>L[i]?=some xs/\j=i+1) (fun i=>i=L.length) 0:=by
 intro y J E hJ hE hc h hle h0;refine CV.mono (hH y J E hJ hE (fun i h xs hl hx hj=>hc i h xs (i+1) hl ⟨hx,rfl⟩ hj) h hle h0) ?_;rintro b h' ⟨h1,h2|h2⟩
 ·exact⟨h1,.inl ⟨_,rfl,h2⟩⟩
 ·exact⟨h1,.inr h2⟩
theorem LH.add_none(h:LH):h.add (fun _=>none)=h:=by
 unfold LH.add;have:h.get.add (fun _=>none)=h.get:=by funext b;unfold Cells.add;cases h.get b<;>rfl
 rw[this]
theorem HandsG.f{v:Value}{h₀:LH}{S:Type}{nx:S->List Value->S->Prop}{fin:S->Prop}{s₀:S}(hH:HandsG X P v h₀ nx fin s₀):HandsF X P v h₀ (fun _=>none) nx fin s₀:=by
 intro y J E hJ hE hc h hle h0 _;rw[LH.add_none];exact hH y J E hJ hE hc h hle h0
theorem t_eachF{h h₀ hm:LH}{k₀:Cells}{v:Value}{init:List Value}{body:List Value->List Value->T}{kf kb kr:List Value->T}{ko:Nat->List Value->T}{S:Type}{nx:S->List Value->S->Prop}{fin:S->Prop}{s₀:S}(μ:S->Nat)(hμ:∀ s xs s',nx s xs s'->μ s'<μ s)
 (heq:h=hm.add k₀)(hdk:Disj hm.get k₀)(hle:h₀.le hm)(hH:HandsF X P v h₀ k₀ nx fin s₀)
 (I:S->List Value->LH->Prop)(h0:I s₀ init hm)
 (hend:∀ s vs h',fin s->h₀.le h'->I s vs h'->(kf vs).wp X P Q h')
 (hb:∀ s xs s' vs h',nx s xs s'->h₀.le h'->I s vs h'->∀ Y:List Value->LH->Prop,(∀ vs' h'',h₀.le h''->I s' vs' h''->Y vs' h'') ->
   (body xs vs).wp X P (fun l h''=>h₀.le h''/\l.go h'' Y (fun vs h'=>(kb vs).wp X P Q h') (fun vs h'=>(kr vs).wp X P Q h') (fun j vs h'=>(ko j vs).wp X P Q h')) h'):(T.each v init body kf kb kr ko).wp X P Q h:=by
 refine⟨S,nx,fin,s₀,h₀,hm,k₀,heq,hdk,hle,hH,fun Y hY=>?_⟩;have key:∀ n s,μ s=n->∀ vs h',h₀.le h'->I s vs h'->Y s vs h':=by
  intro n
  induction n using Nat.strongRecOn with
  | ind n ih =>
   intro s hs vs h' hl hi;refine hY s vs h' hl (fun hf=>hend s vs h' hf hl hi) fun xs s' hn=>?_;exact hb s xs s' vs h' hn hl hi _ fun vs' h'' hl'' hi''=>ih (μ s') (hs▸hμ s xs s' hn) s' rfl vs' h'' hl'' hi''
 exact key _ s₀ rfl init hm hle h0
theorem t_eachG{h h₀:LH}{v:Value}{init:List Value}{body:List Value->List Value->T}{kf kb kr:List Value->T}{ko:Nat->List Value->T}{S:Type}{nx:S->List Value->S->Prop}{fin:S->Prop}{s₀:S}(μ:S->Nat)(hμ:∀ s xs s',nx s xs s'->μ s'<μ s)(hle:h₀.le h)(hH:HandsG X P v h₀ nx fin s₀)
 (I:S->List Value->LH->Prop)(h0:I s₀ init h)
 (hend:∀ s vs h',fin s->h₀.le h'->I s vs h'->(kf vs).wp X P Q h')
 (hb:∀ s xs s' vs h',nx s xs s'->h₀.le h'->I s vs h'->∀ Y:List Value->LH->Prop,(∀ vs' h'',h₀.le h''->I s' vs' h''->Y vs' h'') ->
   (body xs vs).wp X P (fun l h''=>h₀.le h''/\l.go h'' Y (fun vs h'=>(kb vs).wp X P Q h') (fun vs h'=>(kr vs).wp X P Q h') (fun j vs h'=>(ko j vs).wp X P Q h')) h'):(T.each v init body kf kb kr ko).wp X P Q h:=by
 exact t_eachF μ hμ (hm:=h) (k₀:=fun _=>none) (LH.add_none h).symm (fun _=>.inr rfl) hle (hH.f) I h0 hend hb
theorem t_each{h h₀:LH}{v:Value}{init:List Value}{body:List Value->List Value->T}{kf kb kr:List Value->T}{ko:Nat->List Value->T}{L:List (List Value)}(hle:h₀.le h)(hH:Hands X P v h₀ L)(I:Nat->List Value->LH->Prop)(h0:I 0 init h)
 (hend:∀ vs h',h₀.le h'->I L.length vs h'->(kf vs).wp X P Q h')
 (hb:∀ i xs vs h',L[i]?=some xs->h₀.le h'->I i vs h'->∀ Y:List Value->LH->Prop,(∀ vs' h'',h₀.le h''->I (i+1) vs' h''->Y vs' h'') ->
   (body xs vs).wp X P (fun l h''=>h₀.le h''/\l.go h'' Y (fun vs h'=>(kb vs).wp X P Q h') (fun vs h'=>(kr vs).wp X P Q h') (fun j vs h'=>(ko j vs).wp X P Q h')) h'):(T.each v init body kf kb kr ko).wp X P Q h:=by
 refine t_eachG (fun i=>L.length-i) (fun i xs j hn=>?_) hle hH.g I h0 (fun s vs h' hf hl hi=>hend vs h' hl (hf▸hi)) fun i xs j vs h' hn hl hi=>?_
 ·have:=(List.getElem?_eq_some_iff.1 hn.1).1;have:=hn.2;omega
 ·obtain⟨h1,rfl⟩:=hn;exact hb i xs vs h' h1 hl hi
end
section
variable {P:Program} {E:Halt->Cells->Prop} {h:Cells}
theorem boT_und{t:TypeId}(ht:isBoolT P t=true):P.underlying t=some .bool:=by
 unfold isBoolT at ht;split at ht
 ·assumption
 ·cases ht
theorem boT_agg{t:TypeId}(ht:isBoolT P t=true):isAggT P t=false:=by
 unfold isAggT;rw[boT_und ht]
theorem lwp_partB{Q:Value->Cells->Prop}{t:TypeId}{cs:Array Value}{o:Nat}{v:Value}(ht:isBoolT P t=true)(hv:cs[o]?=some v)(hq:Q v h):Sem.lwp P (part t cs o) Q E h:=by
 unfold part;rw[lwp_bind,lwp_isAgg_false (boT_und ht) (boT_agg ht)];simp only[Bool.false_eq_true,if_false,hv];exact hq
theorem lwp_equalB{Q:Bool->Cells->Prop}{t:TypeId}{d:Nat}{a b:Bool}(ht:isBoolT P t=true)(hq:Q (a==b) h):Sem.lwp P (Op.equalIn (d+1) t (.bool a) (.bool b)) Q E h:=by
 unfold Op.equalIn;rw[lwp_bind,lwp_underlying (boT_und ht)];exact hq
def twoBools(P:Program)(t:TypeId):Bool:=match P.underlying t with
 | some (.struct fs)=>(match fs.toList with
  | [a, b] => a.name != "_" && b.name != "_" && isBoolT P a.type && isBoolT P b.type && Nat.beq a.offset 0 && Nat.beq b.offset 1
  | _=>false)&&!P.stoodInHeld t
 | _=>false
theorem twoBools_spec{t : TypeId}(ht : twoBools P t = true) : ∃ a b : Field, P.underlying t = some (.struct #[a, b]) /\ a.name ≠ "_" /\ b.name ≠ "_" /\ isBoolT P a.type = true /\ isBoolT P b.type = true /\ a.offset = 0 /\ b.offset = 1 /\ P.stoodInHeld t = false := by
 unfold twoBools at ht;split at ht
 ·rename_i fs hu;simp only[Bool.and_eq_true,Bool.not_eq_true']at ht;obtain⟨h1,h2⟩:=ht;split at h1
  ·rename_i a b hfs;simp only[Bool.and_eq_true,bne_iff_ne]at h1;obtain⟨⟨⟨⟨⟨h3,h4⟩,h5⟩,h6⟩,h7⟩,h8⟩:=h1;have:fs=#[a,b]:=by rw[<- hfs]
   exact⟨a,b,by rw[hu,this],h3,h4,h5,h6,nbeq_true h7,nbeq_true h8,h2⟩
  ·cases h1
 ·cases ht
theorem lwp_equalBB{Q:Bool->Cells->Prop}{t:TypeId}{a b c d:Bool}(ht:twoBools P t=true)(hq:Q (decide (a=c/\b=d)) h):Sem.lwp P (Op.equal t (.agg #[.bool a,.bool b]) (.agg #[.bool c,.bool d])) Q E h:=by
 obtain⟨f,g,hu,n1,n2,i1,i2,o1,o2,hs⟩:=twoBools_spec ht;unfold Op.equal;have hmd:Op.maxDepth=9998+1+1:=rfl;rw[hmd,Op.equalIn];rw[lwp_bind,lwp_underlying hu];simp only[lwp_bind,lwp_program,hs,Bool.false_eq_true,if_false,List.forIn_toArray,List.forIn_cons,List.forIn_nil,n1,n2,ne_eq,not_false_eq_true,if_true];refine lwp_partB i1 (v:=.bool a) (by rw[o1];rfl) ?_;refine lwp_partB i1 (v:=.bool c) (by rw[o1];rfl) ?_;refine lwp_equalB i1 ?_;by_cases e1:a=c
 ·subst e1;simp only[beq_self_eq_true,Bool.not_true,Bool.false_eq_true,if_false,lwp_pure,lwp_bind];refine lwp_partB i2 (v:=.bool b) (by rw[o2];rfl) ?_;refine lwp_partB i2 (v:=.bool d) (by rw[o2];rfl) ?_;refine lwp_equalB i2 ?_;by_cases e2:b=d
  ·subst e2;simpa[lwp_pure] using hq
  ·have e3:(b==d)=false:=by simpa using e2
   simpa[lwp_pure,e2,e3] using hq
 ·have e3:(a==c)=false:=by simpa using e1
  simpa[lwp_pure,e1,e3] using hq
theorem lwp_equalA5{Q:Bool->Cells->Prop}{t el:TypeId}{s b:Nat}{z:Option Value}{a₀ a₁ a₂ a₃ a₄ b₀ b₁ b₂ b₃ b₄:Bool}(hu:P.underlying t=some (.array 5 el))(he:isBoolT P el=true)(hi:(P.info? el).map (fun i=>(i.size,i.bytes,i.zero))=some (1,b,z))
 (hq:Q (decide ([a₀,a₁,a₂,a₃,a₄]=[b₀,b₁,b₂,b₃,b₄])) h):Sem.lwp P (Op.equal t (.agg #[.bool a₀,.bool a₁,.bool a₂,.bool a₃,.bool a₄]) (.agg #[.bool b₀,.bool b₁,.bool b₂,.bool b₃,.bool b₄])) Q E h:=by
 obtain⟨inf,g1,g2,_,_⟩:=info_of hi;unfold Op.equal;have hmd:Op.maxDepth=9998+1+1:=rfl;rw[hmd,Op.equalIn];rw[lwp_bind,lwp_underlying hu];simp only[lwp_bind,lwp_sizeOf g1,g2];simp only[Std.Legacy.Range.forIn_eq_forIn_range',show (List.range' 0 ([:5]:Std.Legacy.Range).size)=[0,1,2,3,4] by decide,List.forIn_cons,List.forIn_nil,lwp_bind];have step:∀ (i:Nat) (x y:Bool) {K:Bool->Cells->Prop},(#[Value.bool a₀,.bool a₁,.bool a₂,.bool a₃,.bool a₄])[i*1]?=some (.bool x)->(#[Value.bool b₀,.bool b₁,.bool b₂,.bool b₃,.bool b₄])[i*1]?=some (.bool y)->K (x==y) h ->
   Sem.lwp P (part el #[Value.bool a₀,.bool a₁,.bool a₂,.bool a₃,.bool a₄] (i*1)) (fun p h=>Sem.lwp P (part el #[Value.bool b₀,.bool b₁,.bool b₂,.bool b₃,.bool b₄] (i*1)) (fun q h=>Sem.lwp P (Op.equalIn (9998+1) el p q) K E h) E h) E h:=by
  intro i x y K h1 h2 hk;refine lwp_partB he h1 (lwp_partB he h2 (lwp_equalB he hk))
 refine step 0 a₀ b₀ rfl rfl ?_;by_cases e0:a₀=b₀
 ·subst e0;simp only[beq_self_eq_true,Bool.not_true,Bool.false_eq_true,if_false,lwp_pure,lwp_bind];refine step 1 a₁ b₁ rfl rfl ?_;by_cases e1:a₁=b₁
  ·subst e1;simp only[beq_self_eq_true,Bool.not_true,Bool.false_eq_true,if_false,lwp_pure,lwp_bind];refine step 2 a₂ b₂ rfl rfl ?_;by_cases e2:a₂=b₂
   ·subst e2;simp only[beq_self_eq_true,Bool.not_true,Bool.false_eq_true,if_false,lwp_pure,lwp_bind];refine step 3 a₃ b₃ rfl rfl ?_;by_cases e3:a₃=b₃
    ·subst e3;simp only[beq_self_eq_true,Bool.not_true,Bool.false_eq_true,if_false,lwp_pure,lwp_bind];refine step 4 a₄ b₄ rfl rfl ?_;by_cases e4:a₄=b₄
     ·subst e4;simpa[lwp_pure] using hq
     ·have e':(a₄==b₄)=false:=by simpa using e4
      simpa[lwp_pure,e4,e'] using hq
    ·have e':(a₃==b₃)=false:=by simpa using e3
     simpa[lwp_pure,e3,e'] using hq
   ·have e':(a₂==b₂)=false:=by simpa using e2
    simpa[lwp_pure,e2,e'] using hq
  ·have e':(a₁==b₁)=false:=by simpa using e1
   simpa[lwp_pure,e1,e'] using hq
 ·have e':(a₀==b₀)=false:=by simpa using e0
  simpa[lwp_pure,e0,e'] using hq
section
variable {X:XP} {Q:Leaf->LH->Prop}
theorem t_eqBB{h:LH}{K:Value->T}{t:TypeId}{x y:Operand}{a b c d:Bool}(ht:twoBools P t=true)(hg:P.eqGuardType P.depth t=false)(hk:(K (.bool (decide (a=c/\b=d)))).wp X P Q h) :
  (T.sem false (Sem.bind (eqGuard .eql t x y (.agg #[.bool a,.bool b]) (.agg #[.bool c,.bool d])) fun _=>binOp .eql t (.agg #[.bool a,.bool b]) (.agg #[.bool c,.bool d])) K).wp X P Q h:=by
 refine t_sem (A:=fun w h'=>w=.bool (decide (a=c/\b=d))/\h'=h.get) (Sem.lwp_bind _ _ ?_) (by rintro w h' ⟨rfl,rfl⟩;exact hk);unfold eqGuard;simp only[Bool.not_true,Bool.false_eq_true,if_false,lwp_bind,lwp_program,hg,Bool.not_false,if_true,lwp_pure];unfold binOp;rw[lwp_bind];exact lwp_equalBB ht ⟨rfl,rfl⟩
theorem t_eqA5{h:LH}{K:Value->T}{t el:TypeId}{x y:Operand}{b:Nat}{z:Option Value}{a₀ a₁ a₂ a₃ a₄ b₀ b₁ b₂ b₃ b₄:Bool}(hu:P.underlying t=some (.array 5 el))(he:isBoolT P el=true)(hi:(P.info? el).map (fun i=>(i.size,i.bytes,i.zero))=some (1,b,z))(hg:P.eqGuardType P.depth t=false)
 (hk:(K (.bool (decide ([a₀,a₁,a₂,a₃,a₄]=[b₀,b₁,b₂,b₃,b₄])))).wp X P Q h) :
  (T.sem false (Sem.bind (eqGuard .eql t x y (.agg #[.bool a₀,.bool a₁,.bool a₂,.bool a₃,.bool a₄]) (.agg #[.bool b₀,.bool b₁,.bool b₂,.bool b₃,.bool b₄])) fun _=>binOp .eql t (.agg #[.bool a₀,.bool a₁,.bool a₂,.bool a₃,.bool a₄]) (.agg #[.bool b₀,.bool b₁,.bool b₂,.bool b₃,.bool b₄])) K).wp X P Q h:=by
 refine t_sem (A:=fun w h'=>w=.bool (decide ([a₀,a₁,a₂,a₃,a₄]=[b₀,b₁,b₂,b₃,b₄]))/\h'=h.get) (Sem.lwp_bind _ _ ?_) (by rintro w h' ⟨rfl,rfl⟩;exact hk);unfold eqGuard;simp only[Bool.not_true,Bool.false_eq_true,if_false,lwp_bind,lwp_program,hg,Bool.not_false,if_true,lwp_pure];unfold binOp;rw[lwp_bind];exact lwp_equalA5 (s:=1) hu he hi ⟨rfl,rfl⟩
theorem t_sliceArr{h:LH}{K:Value->T}{t el:TypeId}{n i s b:Nat}{z:Option Value}{a:Addr}(hu:P.underlying t=some (.array n el))(hi:(P.info? el).map (fun i=>(i.size,i.bytes,i.zero))=some (s,b,z))(hin:i<=n)
 (hk:∀ a',(i=0->a'=a)->(i≠0->a'=a.add 0)->(K (.slice (some a') i i)).wp X P Q h):(T.sem false (Instr.sliceAt t (.pointer (some a)) none (some (.int .i64 (i:Int))) (some (.int .i64 (i:Int)))) K).wp X P Q h:=by
 obtain⟨inf,g1,g2,_,_⟩:=info_of hi;refine t_sem (A:=fun v h'=>h'=h.get/\(K v).wp X P Q h) ?_ (by rintro v h' ⟨rfl,hw⟩;exact hw);unfold Instr.sliceAt;simp only[lwp_bind,lwp_underlying hu,Instr.sureAddr];unfold Instr.sliceBounds Instr.sliceBound;simp only[lwp_bind,lwp_pure,asIntOf];rw[if_pos (show 0<=(i:Int)/\(i:Int)<=(n:Int) by omega)];simp only[lwp_pure,lwp_bind,Int.toNat_natCast];rw[if_pos (show 0<=(i:Int)/\(i:Int)<=(i:Int) by omega)];simp only[lwp_pure,lwp_bind,Int.toNat_natCast,lwp_sizeOf g1,Nat.zero_mul,Nat.sub_zero];refine⟨trivial,hk _ (fun e=>?_) (fun e=>?_)⟩
 ·rw[if_pos e]
 ·rw[if_neg e]
theorem t_makeSlice{h:LH}{K:Value->T}{t el:TypeId}{n b:Nat}{z:Value}(hu:P.underlying t=some (.slice el))(hi:(P.info? el).map (fun i=>(i.size,i.bytes,i.zero))=some (1,b,some z))(hz:z.cells=#[z])(hb:b<=1024)(hn:n<=2^30)
 (hk:∀ r cs,h.get r=none->cs.size=n->(∀ j,j<n->cs[j]?=some z)->(K (.slice (some ⟨r,0,none⟩) n n)).wp X P Q { h with get:=h.get.upd r (true,.cells cs el (0,0)) }):(T.sem false (Instr.makeSlice t (.int .i64 (n:Int)) (.int .i64 (n:Int))) K).wp X P Q h:=by
 obtain⟨inf,g1,g2,g3,g4⟩:=info_of hi;refine t_sem (A:=fun v h'=>∃ r cs,h.get r=none/\cs.size=n/\(∀ j,j<n->cs[j]?=some z)/\v=.slice (some ⟨r,0,none⟩) n n/\h'=h.get.upd r (true,.cells cs el (0,0))) ?_ (by rintro v h' ⟨r,cs,h1,h2,h3,rfl,rfl⟩;exact hk r cs h1 h2 h3);unfold Instr.makeSlice;have hw:IntKind.i64.wrap (n:Int)=n:=wrap_id (by omega) (by omega);simp only[lwp_bind,lwp_underlying hu,asInt,asIntOf,lwp_pure,lwp_typeInfo g1,hw,g3];have hbn:b*n<=1024*2^30:=Nat.mul_le_mul hb hn;have hle:((b:Int)*(n:Int))<=1024*2^30:=by
  have:((b*n:Nat):Int)<=((1024*2^30:Nat):Int):=Int.ofNat_le.2 hbn;simpa using this
 have hnot:¬ ((decide ((n:Int)<0)||decide (((b:Int)*(n:Int))>2^48)||decide ((n:Int)<0)||decide ((n:Int)>(n:Int)))=true):=by
  simp;omega
 have e1:(((decide ((n:Int)<0)||decide (((b:Int)*(n:Int))>2^48))||decide ((n:Int)<0))||decide ((n:Int)>(n:Int)))=false:=by
  simp;omega
 rw[if_neg (by simpa using e1)];have hroom':∀ {K:Unit->Cells->Prop},K () h.get->Sem.lwp P (askRoom ((n:Int).toNat*b)) K (fun _ _=>False) h.get:=by
  intro K hK;unfold askRoom;split
  ·exact⟨rfl,hK⟩
  ·exact hK
 simp only[lwp_bind];refine hroom' ?_;simp only[lwp_sizeOf g1,g2,Nat.mul_one,Int.toNat_natCast];have fin:∀ zs:Array Value,(n≠0->zs=#[z])->Sem.lwp P (newRow el ((Array.range n).map fun x=>zs[x%zs.size]!)) (fun a h'=>Sem.lwp P (pure (Value.slice (some a) n n)) (fun v h'=>∃ r cs,h.get r=none/\cs.size=n/\(∀ j,j<n->cs[j]?=some z)/\v=.slice (some ⟨r,0,none⟩) n n/\h'=h.get.upd r (true,.cells cs el (0,0))) (fun _ _=>False) h') (fun _ _=>False) h.get:=by
  intro zs hzs;refine lwp_newRow fun r hr=>?_;rw[lwp_pure];refine⟨r,_,hr,by simp,fun j hj=>?_,rfl,rfl⟩;have:=hzs (by omega);subst this;simp[hj,Nat.mod_one]
 by_cases h0:n=0
 ·simp only[h0,if_true,lwp_pure];subst h0;exact fin #[] (fun e=>absurd rfl e)
 ·simp only[if_neg h0,lwp_bind,lwp_zeroValue g1 g4,lwp_pure,hz];exact fin #[z] (fun _=>rfl)
theorem CV.frame(hX:XOK X){v:Value}{args:Array Value}{h:LH}{A:Value->LH->Prop}(c:CV X P v args h A){k:Cells}(d:Disj h.get k):CV X P v args (h.add k) fun r h₂=>∃ h',Disj h'.get k/\h₂=h'.add k/\A r h':=by
 intro main R hR fr cs hk;have hcv:=c main (fun g h=>Disj h.get k->R g (h.add k)) (hR.frame hX k) fr cs ?_
 ·refine Sem.lwp_mono _ (lwp_frame _ hcv d) ?_ ?_
  ·rintro nx h₂ ⟨h',d',rfl,hN⟩;cases nx<;>first|exact hN.elim|exact hN d'
  ·rintro e' h₂ ⟨_,_,_,hf⟩;exact hf.elim
 ·intro v h' j dj' hQ dk;have d1:Disj h'.get k:=dk.of_add_left;have d2:Disj j k:=Disj.of_add_right dj' dk;have e1:(h'.add j).add k=(h'.add k).add j:=by unfold LH.add;simp only;rw[Cells.add_swap d2]
  rw[e1];exact hk v (h'.add k) j (Disj.add dj' d2.symm) ⟨h',d1,rfl,hQ⟩
end
end
end Go.TM
section
namespace Go.Y.Tre
theorem inf3:(Tryz.prog.info? 3).map (fun i=>(i.size,i.bytes,i.zero))=some (1,8,some (.int .i64 0)):=by kernel_rfl
theorem inf4:(Tryz.prog.info? 4).map (fun i=>(i.size,i.bytes,i.zero))=some (1,1,some (.bool false)):=by kernel_rfl
theorem inf30:(Tryz.prog.info? 33).map (fun i=>(i.size,i.bytes,i.zero))=some (2,16,some (.agg #[.int .i64 0,.int .i64 0])):=by kernel_rfl
theorem inf50:(Tryz.prog.info? 31).map (fun i=>(i.size,i.bytes,i.zero))=some (1,24,some (.slice none 0 0)):=by kernel_rfl
theorem infEv:(Tryz.prog.info? 49).map (fun i=>(i.size,i.bytes,i.zero))=some (5,56,some (.agg #[.int .i64 0,.int .i64 0,.int .i64 0,.slice none 0 0,.int .i64 0])):=by kernel_rfl
theorem infAsk:(Tryz.prog.info? 91).map (fun i=>(i.size,i.bytes,i.zero))=some (12,112,some (.agg #[.int .i64 0,.int .i64 0,.int .i64 0,.int .i64 0,.int .i64 0,.int .i64 0,.slice none 0 0,.int .i64 0,.int .i64 0,.int .i64 0,.int .i64 0,.bool false])):=by kernel_rfl
theorem infTitle:(Tryz.prog.info? 115).map (fun i=>(i.size,i.bytes,i.zero))=some (1,16,some .nilIface):=by kernel_rfl
theorem und22:Tryz.prog.underlying 62=some (.slice 33):=by kernel_rfl
theorem und50:Tryz.prog.underlying 31=some (.slice 3):=by kernel_rfl
theorem undBs:Tryz.prog.underlying 57=some (.slice 4):=by kernel_rfl
theorem undEvs:Tryz.prog.underlying 22=some (.slice 49):=by kernel_rfl
theorem undAsks:Tryz.prog.underlying 124=some (.slice 91):=by kernel_rfl
theorem undTitles:Tryz.prog.underlying 112=some (.slice 115):=by kernel_rfl
theorem undItems:Tryz.prog.underlying 83=some (.array 5 4):=by kernel_rfl
theorem undMap:Tryz.prog.underlying 88=some (.map 3 4):=by kernel_rfl
theorem i64_3:isI64 Tryz.prog 3=true:=by kernel_rfl
theorem bo4:isBoolT Tryz.prog 4=true:=by kernel_rfl
theorem twoUses:twoBools Tryz.prog 127=true:=by kernel_rfl
theorem gUses:Tryz.prog.eqGuardType Tryz.prog.depth 127=false:=by kernel_rfl
theorem gItems:Tryz.prog.eqGuardType Tryz.prog.depth 83=false:=by kernel_rfl
theorem two30:twoInts Tryz.prog 33=true:=by kernel_rfl
theorem g30:Tryz.prog.eqGuardType Tryz.prog.depth 33=false:=by kernel_rfl
theorem undCI:Tryz.prog.underlying 96=some (.chan .both 31):=by kernel_rfl
theorem undCB:Tryz.prog.underlying 97=some (.chan .both 4):=by kernel_rfl
end Go.Y.Tre
end
namespace Go.TM.Tr
section
structure Ev where
 kind:Int
 day:Int
 land:Int
 items:List Int
 since:Int
 deriving DecidableEq
structure TF where
 items:Int
 lands:Int
 start:Int
 depend:Int
 refuse:Int
 turn:Int
 events:List Ev
 deriving DecidableEq
def least:List Int->Int
 | []=>10000
 | x::l=>if x<least l then x else least l
theorem lt_least{n:Int}:∀ {l:List Int},n<least l↔n<10000/\∀ v∈l,n<v
 | []=>by simp[least]
 | x::l=>by
  have ih:=lt_least (n:=n) (l:=l);rw[least];simp only[List.mem_cons,forall_eq_or_imp];split
  ·rename_i h;constructor
   ·intro h1;have:=ih.1 (by omega);exact⟨this.1,h1,this.2⟩
   ·intro h1;exact h1.2.1
  ·rename_i h;constructor
   ·intro h1;have:=ih.1 h1;exact⟨this.1,by omega,this.2⟩
   ·intro h1;exact ih.2 ⟨h1.1,h1.2.2⟩
theorem least_le{n:Int}{l:List Int}:least l<=n↔10000<=n\/∃ v∈l,v<=n:=by
 rw[<- Int.not_lt,lt_least];constructor
 ·intro h;by_cases h1:10000<=n
  ·exact .inl h1
  ·right;apply Classical.byContradiction;intro h2;exact h ⟨by omega,fun v hv=>by
    apply Int.not_le.1;exact fun h3=>h2 ⟨v,hv,h3⟩⟩
 ·rintro(h|⟨v,hv,h⟩) ⟨h1,h2⟩
  ·omega
  ·have:=h2 v hv;omega
theorem least_mem:∀ {l:List Int},least l=10000\/least l∈l
 | []=>.inl rfl
 | x::l=>by
  rw[least];split
  ·exact .inr (by simp)
  ·rcases least_mem (l:=l) with h|h
   ·exact .inl h
   ·exact .inr (List.mem_cons_of_mem _ h)
theorem least_cap(l:List Int):least l<=10000:=least_le.2 (.inl (Int.le_refl _))
theorem least_same{l m:List Int}(h:∀ v,v∈l↔v∈m):least l=least m:=by
 have key:∀ {l m:List Int},(∀ v,v∈l↔v∈m)->least l<=least m:=by
  intro l m h;rw[least_le];rcases least_mem (l:=m) with h1|h1
  ·left;omega
  ·exact .inr ⟨_,(h _).2 h1,Int.le_refl _⟩
 exact Int.le_antisymm (key h) (key fun v=>(h v).symm)
theorem least_more{l m:List Int}(h:∀ v∈l,∃ w∈m,w<=v):least m<=least l:=by
 rw[least_le];rcases least_mem (l:=l) with h1|h1
 ·left;omega
 ·obtain⟨w,hw,h2⟩:=h _ h1;exact .inr ⟨w,hw,h2⟩
def about(e:Ev)(kind land item:Int):Bool:=(e.kind==kind)&&((e.land==land)&&e.items.contains item)
def early(x:TF)(e:Ev):Bool:=(e.kind==4)&&decide (e.since<=x.start+x.depend)
def fallsL(x:TF)(i f:Int):List Int:=(x.events.filter fun e=>early x e&&(e.items.contains i&&decide (f<=e.day))).map (·.day)
def falls(x:TF)(i f:Int):Int:=least (fallsL x i f)
def limitsL(x:TF)(k i f:Int):List Int:=(x.events.filter fun e=>about e 3 k i&&decide (f<=e.day)).map (·.day)
def limits(x:TF)(k i f:Int):Int:=least (limitsL x k i f)
def lifted(x:TF)(k i r d:Int):Bool:=x.events.any fun l=>about l 2 k i&&decide (r<=l.day/\l.day<=d)
def refused(x:TF)(k i a d:Int):Bool:=x.events.any fun r=>about r 1 k i&&(decide (a<=r.day/\r.day<=a+x.refuse/\r.day<=d)&&!lifted x k i r.day d)
def askDays(x:TF)(k i:Int):List Int:=(x.events.filter fun e=>about e 0 k i&&decide (e.day<falls x i 0)).map (·.day)
def askEnd(x:TF)(k i a:Int):Int:=if limits x k i a<falls x i a then limits x k i a else falls x i a
def fallen(x:TF)(k i a:Int):Bool:=decide (falls x i a<limits x k i a)
def goodBy(x:TF)(k i d a:Int):Bool:=fallen x k i a&&(decide (askEnd x k i a<=d/\d<=askEnd x k i a+x.turn)&&!refused x k i a (askEnd x k i a-1))
def turnedL(x:TF)(k i d:Int):List Int:=(askDays x k i).filter (goodBy x k i d)
def leastOr(l:List Int):Int:=if l.isEmpty then -1 else least l
def turned(x:TF)(k i d:Int):Int:=leastOr (turnedL x k i d)
def askHeld(x:TF)(k i d:Int):List Int:=(askDays x k i).filter fun a=>decide (a<=d/\d<askEnd x k i a)&&!refused x k i a d
def turnHeld(x:TF)(k i d:Int):List Int:=(x.events.filter fun e=>about e 5 k i&&(decide (0<=turned x k i e.day)&&decide (e.day<=d/\d<limits x k i e.day))).map fun e=>turned x k i e.day
def held(x:TF)(k i d:Int):List Int:=askHeld x k i d++turnHeld x k i d
def oldL(x:TF)(k i d a:Int):List Int:=(x.events.filter fun e=>about e 6 k i&&(decide (e.day<=d)&&decide (e.since<=a))).map (·.since)
def dated(x:TF)(k i d a:Int):Int:=least (a::oldL x k i d a)
def dateOn(x:TF)(k i d:Int):Int:=leastOr ((held x k i d).map (dated x k i d))
namespace Same
variable {x y:TF}
end Same
end
section
def has(x:TF)(k i K t:Int):Prop:=∃ e∈x.events,about e K k i=true/\e.day=t
def fell(x:TF)(i t:Int):Prop:=∃ e∈x.events,early x e=true/\e.items.contains i=true/\e.day=t
def older(x:TF)(k i t s:Int):Prop:=∃ e∈x.events,about e 6 k i=true/\e.day=t/\e.since=s
theorem mem_falls{x:TF}{i f v:Int}:v∈fallsL x i f↔fell x i v/\f<=v:=by
 unfold fallsL fell;simp only[List.mem_map,List.mem_filter,Bool.and_eq_true,decide_eq_true_eq];constructor
 ·rintro⟨e,⟨h1,h2,h3,h4⟩,rfl⟩;exact⟨⟨e,h1,h2,h3,rfl⟩,h4⟩
 ·rintro⟨⟨e,h1,h2,h3,rfl⟩,h4⟩;exact⟨e,⟨h1,h2,h3,h4⟩,rfl⟩
theorem mem_limits{x:TF}{k i f v:Int}:v∈limitsL x k i f↔has x k i 3 v/\f<=v:=by
 unfold limitsL has;simp only[List.mem_map,List.mem_filter,Bool.and_eq_true,decide_eq_true_eq];constructor
 ·rintro⟨e,⟨h1,h2,h3⟩,rfl⟩;exact⟨⟨e,h1,h2,rfl⟩,h3⟩
 ·rintro⟨⟨e,h1,h2,rfl⟩,h3⟩;exact⟨e,⟨h1,h2,h3⟩,rfl⟩
theorem lifted_iff{x:TF}{k i r d:Int}:lifted x k i r d=true↔∃ t,has x k i 2 t/\r<=t/\t<=d:=by
 unfold lifted has;simp only[List.any_eq_true,Bool.and_eq_true,decide_eq_true_eq];constructor
 ·rintro⟨e,h1,h2,h3⟩;exact⟨_,⟨e,h1,h2,rfl⟩,h3⟩
 ·rintro⟨_,⟨e,h1,h2,rfl⟩,h3⟩;exact⟨e,h1,h2,h3⟩
theorem refused_iff{x:TF}{k i a d:Int}:refused x k i a d=true↔∃ t,has x k i 1 t/\(a<=t/\t<=a+x.refuse/\t<=d)/\¬ ∃ l,has x k i 2 l/\t<=l/\l<=d:=by
 unfold refused;simp only[List.any_eq_true,Bool.and_eq_true,decide_eq_true_eq,Bool.not_eq_true',<- Bool.not_eq_true,lifted_iff];constructor
 ·rintro⟨e,h1,h2,h3,h4⟩;exact⟨_,⟨e,h1,h2,rfl⟩,h3,h4⟩
 ·rintro⟨_,⟨e,h1,h2,rfl⟩,h3,h4⟩;exact⟨e,h1,h2,h3,h4⟩
theorem mem_asks{x:TF}{k i v:Int}:v∈askDays x k i↔has x k i 0 v/\v<falls x i 0:=by
 unfold askDays has;simp only[List.mem_map,List.mem_filter,Bool.and_eq_true,decide_eq_true_eq];constructor
 ·rintro⟨e,⟨h1,h2,h3⟩,rfl⟩;exact⟨⟨e,h1,h2,rfl⟩,h3⟩
 ·rintro⟨⟨e,h1,h2,rfl⟩,h3⟩;exact⟨e,⟨h1,h2,h3⟩,rfl⟩
theorem mem_askHeld{x:TF}{k i d v:Int}:v∈askHeld x k i d↔(has x k i 0 v/\v<falls x i 0)/\(v<=d/\d<askEnd x k i v)/\¬ refused x k i v d=true:=by
 unfold askHeld;simp only[List.mem_filter,mem_asks,Bool.and_eq_true,decide_eq_true_eq,Bool.not_eq_true',<- Bool.not_eq_true]
theorem mem_turnHeld{x:TF}{k i d v:Int}:v∈turnHeld x k i d↔∃ t,has x k i 5 t/\0<=turned x k i t/\(t<=d/\d<limits x k i t)/\v=turned x k i t:=by
 unfold turnHeld has;simp only[List.mem_map,List.mem_filter,Bool.and_eq_true,decide_eq_true_eq];constructor
 ·rintro⟨e,⟨h1,h2,h3,h4⟩,rfl⟩;exact⟨_,⟨e,h1,h2,rfl⟩,h3,h4,rfl⟩
 ·rintro⟨_,⟨e,h1,h2,rfl⟩,h3,h4,rfl⟩;exact⟨e,⟨h1,h2,h3,h4⟩,rfl⟩
theorem mem_held{x:TF}{k i d v:Int}:v∈held x k i d↔v∈askHeld x k i d\/v∈turnHeld x k i d:=by
 unfold held;rw[List.mem_append]
theorem mem_old{x:TF}{k i d a v:Int}:v∈oldL x k i d a↔(∃ t,older x k i t v/\t<=d)/\v<=a:=by
 unfold oldL older;simp only[List.mem_map,List.mem_filter,Bool.and_eq_true,decide_eq_true_eq];constructor
 ·rintro⟨e,⟨h1,h2,h3,h4⟩,rfl⟩;exact⟨⟨_,⟨e,h1,h2,rfl,rfl⟩,h3⟩,h4⟩
 ·rintro⟨⟨_,⟨e,h1,h2,rfl,rfl⟩,h3⟩,h4⟩;exact⟨e,⟨h1,h2,h3,h4⟩,rfl⟩
theorem mem_turned{x:TF}{k i d v:Int}:v∈turnedL x k i d↔(has x k i 0 v/\v<falls x i 0)/\(fallen x k i v=true/\(askEnd x k i v<=d/\d<=askEnd x k i v+x.turn)/\¬ refused x k i v (askEnd x k i v-1)=true):=by
 unfold turnedL goodBy;simp only[List.mem_filter,mem_asks,Bool.and_eq_true,decide_eq_true_eq,Bool.not_eq_true',<- Bool.not_eq_true]
theorem leastOr_mem{l:List Int}(h:∀ v∈l,0<=v/\v<10000):(leastOr l = -1/\l=[])\/(leastOr l∈l/\leastOr l=least l):=by
 unfold leastOr;cases l with
 | nil=>exact .inl ⟨rfl,rfl⟩
 | cons a l =>
  right;simp only[List.isEmpty_cons,Bool.false_eq_true,if_false];rcases least_mem (l:=a::l) with h2|h2
  ·have h3:=h a (by simp);have h4:least (a::l)<=a:=least_le.2 (.inr ⟨a,by simp,Int.le_refl _⟩);omega
  ·exact⟨h2,trivial⟩
theorem leastOr_more{l m:List Int}(hl:∀ v∈l,0<=v/\v<10000)(hm:∀ v∈m,0<=v/\v<10000)(h:∀ v∈l,∃ w∈m,w<=v)(h0:0<=leastOr l):0<=leastOr m/\leastOr m<=leastOr l:=by
 rcases leastOr_mem hl with⟨h1,_⟩|⟨h1,h2⟩
 ·omega
 ·obtain⟨w,hw,h3⟩:=h _ h1;rcases leastOr_mem hm with⟨_,h4⟩|⟨h4,h5⟩
  ·rw[h4]at hw;simp at hw
  ·have:leastOr m<=w:=by rw[h5];exact least_le.2 (.inr ⟨w,hw,Int.le_refl _⟩)
   have:=(hm _ h4).1;exact⟨this,by omega⟩
structure Facts(x y:TF)(k i d:Int):Prop where
 refuse:y.refuse=x.refuse
 turn:y.turn=x.turn
 has:∀ K t,K≠6->K≠4->t<=d->(has y k i K t↔has x k i K t)
 fell:∀ t,t<=d->(fell y i t↔fell x i t)
 older:∀ t s,t<=d->(older y k i t s↔older x k i t s)
namespace Facts
variable {x y:TF} {k i d:Int}
theorem turned_le{x:TF}{k i d v:Int}(h:v∈turnedL x k i d):v<=Tr.askEnd x k i v/\Tr.askEnd x k i v<=d:=by
 obtain⟨_,_,h2,_⟩:=mem_turned.1 h;refine⟨?_,h2.1⟩;unfold Tr.askEnd;have h1:v<=Tr.limits x k i v\/Tr.limits x k i v=10000:=by
  rcases least_mem (l:=limitsL x k i v) with h|h
  ·exact .inr h
  ·exact .inl (mem_limits.1 h).2
 have h3:v<=Tr.falls x i v\/Tr.falls x i v=10000:=by
  rcases least_mem (l:=fallsL x i v) with h|h
  ·exact .inr h
  ·exact .inl (mem_falls.1 h).2
 have h4:v<10000:=by
  have:=(mem_turned.1 h).1.2;have:=least_cap (fallsL x i 0);unfold Tr.falls at *;omega
 split<;>omega
end Facts
end
section
def Ok(x:TF):Prop:=∀ e∈x.events,0<=e.day/\e.day<=9999/\0<=e.since/\e.since<=e.day
theorem Ok.has{x:TF}(v:Ok x){k i K t:Int}(h:has x k i K t):0<=t/\t<=9999:=by
 obtain⟨e,h1,_,rfl⟩:=h;have:=v e h1;omega
theorem Ok.older{x:TF}(v:Ok x){k i t s:Int}(h:older x k i t s):0<=s/\s<=t/\t<=9999:=by
 obtain⟨e,h1,_,rfl,rfl⟩:=h;have:=v e h1;omega
theorem Ok.turnedL{x:TF}(v:Ok x){k i d:Int}:∀ n∈turnedL x k i d,0<=n/\n<10000:=fun n h=>by
 have:=v.has (mem_turned.1 h).1.1;omega
theorem turned_vals{x:TF}(v:Ok x)(k i d:Int):(turned x k i d = -1/\turnedL x k i d=[])\/(turned x k i d∈turnedL x k i d/\turned x k i d=least (turnedL x k i d)):=leastOr_mem v.turnedL
theorem falls_up{x:TF}{i a b:Int}(h:a<=b):falls x i a<=falls x i b :=
 least_more fun v hv=>by
  obtain⟨h1,h2⟩:=mem_falls.1 hv;exact⟨v,mem_falls.2 ⟨h1,by omega⟩,Int.le_refl _⟩
theorem turned_lt{x:TF}(v:Ok x){k i d n:Int}(h:n∈turnedL x k i d):n<d:=by
 have hle:=Facts.turned_le h;obtain⟨⟨h0,h1⟩,h2,h3,_⟩:=mem_turned.1 h;have:=falls_up (x:=x) (i:=i) (v.has h0).1;unfold fallen at h2;unfold askEnd at h3;rw[decide_eq_true_eq]at h2;rw[if_neg (by omega)]at h3;omega
theorem held_vals{x:TF}(v:Ok x){k i d a:Int}(h:a∈held x k i d):0<=a/\a<=d/\a<=9999/\has x k i 0 a:=by
 rcases mem_held.1 h with h|h
 ·obtain⟨⟨h1,_⟩,h2,_⟩:=mem_askHeld.1 h;have:=v.has h1;exact⟨this.1,h2.1,this.2,h1⟩
 ·obtain⟨t,h1,h2,h3,rfl⟩:=mem_turnHeld.1 h;rcases turned_vals v k i t with⟨e,_⟩|⟨e,_⟩
  ·omega
  ·have h4:=turned_lt v e;have h5:=(mem_turned.1 e).1.1;have:=v.has h5;exact⟨this.1,by omega,this.2,h5⟩
theorem dated_vals{x:TF}(v:Ok x){k i d a:Int}(ha:0<=a/\a<=9999):0<=dated x k i d a/\dated x k i d a<=a/\(dated x k i d a=a\/∃ t,older x k i t (dated x k i d a)/\t<=d):=by
 have h1:dated x k i d a<=a:=least_le.2 (.inr ⟨a,by simp,Int.le_refl _⟩);rcases least_mem (l:=a::oldL x k i d a) with h|h
 ·unfold dated at h1 ⊢;omega
 ·rcases List.mem_cons.1 h with h|h
  ·exact⟨by unfold dated;omega,h1,.inl h⟩
  ·obtain⟨⟨t,h2,h3⟩,h4⟩:=mem_old.1 h;exact⟨(v.older h2).1,h1,.inr ⟨t,h2,h3⟩⟩
theorem date_vals{x:TF}(v:Ok x){k i d:Int}:∀ n∈(held x k i d).map (dated x k i d),0<=n/\n<10000:=by
 intro n hn;obtain⟨a,ha,rfl⟩:=List.mem_map.1 hn;obtain⟨h1,h2,h3,_⟩:=held_vals v ha;have:=dated_vals v (k:=k) (i:=i) (d:=d) ⟨h1,h3⟩;omega
theorem dated_mono{x:TF}{k i d a b:Int}(h:a<=b):dated x k i d a<=dated x k i d b :=
 least_more fun v hv=>by
  rcases List.mem_cons.1 hv with rfl|hv
  ·exact⟨a,by simp,h⟩
  ·obtain⟨h1,h2⟩:=mem_old.1 hv;by_cases e:v<=a
   ·exact⟨v,List.mem_cons_of_mem _ (mem_old.2 ⟨h1,e⟩),Int.le_refl _⟩
   ·exact⟨a,by simp,by omega⟩
structure Gives(x y:TF)(k i:Int):Prop where
 refuse:y.refuse=x.refuse
 turn:y.turn=x.turn
 h0:∀ t,has x k i 0 t->has y k i 0 t
 h1:∀ t,has y k i 1 t↔has x k i 1 t
 h2:∀ t,has x k i 2 t->has y k i 2 t
 h3:∀ t,has y k i 3 t↔has x k i 3 t
 h5:∀ t,has x k i 5 t->has y k i 5 t
 fell:∀ t,fell y i t↔fell x i t
 older:∀ t s,older y k i t s↔older x k i t s
namespace Gives
variable {x y:TF} {k i:Int}
theorem falls(s:Gives x y k i)(f:Int):Tr.falls y i f=Tr.falls x i f:=least_same fun v=>by rw[mem_falls,mem_falls,s.fell]
theorem limits(s:Gives x y k i)(f:Int):Tr.limits y k i f=Tr.limits x k i f:=least_same fun v=>by rw[mem_limits,mem_limits,s.h3]
theorem askEnd(s:Gives x y k i)(a:Int):Tr.askEnd y k i a=Tr.askEnd x k i a:=by unfold Tr.askEnd;rw[s.falls,s.limits]
theorem refused(s:Gives x y k i){a d:Int}(h:Tr.refused y k i a d=true):Tr.refused x k i a d=true:=by
 obtain⟨t,g1,g2,g3⟩:=refused_iff.1 h;exact refused_iff.2 ⟨t,(s.h1 t).1 g1,by rw[<- s.refuse];exact g2,fun ⟨l,g4,g5⟩=>g3 ⟨l,s.h2 l g4,g5⟩⟩
theorem turnedL(s:Gives x y k i){d v:Int}(h:v∈Tr.turnedL x k i d):v∈Tr.turnedL y k i d:=by
 obtain⟨⟨g0,g1⟩,g2,g3,g4⟩:=mem_turned.1 h;refine mem_turned.2 ⟨⟨s.h0 v g0,by rw[s.falls];exact g1⟩,?_,by rw[s.askEnd,s.turn];exact g3,by rw[s.askEnd];exact fun hh=>g4 (s.refused hh)⟩;unfold fallen at *;rw[s.falls,s.limits];exact g2
theorem turned(s:Gives x y k i)(vx:Ok x)(vy:Ok y){d:Int}(h:0<=Tr.turned x k i d):0<=Tr.turned y k i d/\Tr.turned y k i d<=Tr.turned x k i d :=
 leastOr_more vx.turnedL vy.turnedL (fun v hv=>⟨v,s.turnedL hv,Int.le_refl _⟩) h
theorem held(s:Gives x y k i)(vx:Ok x)(vy:Ok y){d v:Int}(h:v∈Tr.held x k i d):∃ w∈Tr.held y k i d,w<=v:=by
 rcases mem_held.1 h with h|h
 ·obtain⟨⟨g0,g1⟩,g2,g3⟩:=mem_askHeld.1 h;exact⟨v,mem_held.2 (.inl (mem_askHeld.2 ⟨⟨s.h0 v g0,by rw[s.falls];exact g1⟩,by rw[s.askEnd];exact g2,fun hh=>g3 (s.refused hh)⟩)),Int.le_refl _⟩
 ·obtain⟨t,g1,g2,g3,rfl⟩:=mem_turnHeld.1 h;obtain⟨g4,g5⟩:=s.turned vx vy g2;exact⟨_,mem_held.2 (.inr (mem_turnHeld.2 ⟨t,s.h5 t g1,g4,by rw[s.limits];exact g3,rfl⟩)),g5⟩
theorem dated(s:Gives x y k i)(d a:Int):Tr.dated y k i d a=Tr.dated x k i d a :=
 least_same fun v=>by
  rw[List.mem_cons,List.mem_cons,mem_old,mem_old];simp only[s.older]
theorem noLess(s:Gives x y k i)(vx:Ok x)(vy:Ok y){d:Int}(h:0<=dateOn x k i d):0<=dateOn y k i d/\dateOn y k i d<=dateOn x k i d:=by
 refine leastOr_more (date_vals vx) (date_vals vy) (fun v hv=>?_) h;obtain⟨a,ha,rfl⟩:=List.mem_map.1 hv;obtain⟨w,hw,hle⟩:=s.held vx vy ha;exact⟨_,List.mem_map.2 ⟨w,hw,rfl⟩,by rw[s.dated];exact dated_mono hle⟩
end Gives
namespace Takes
variable {x y:TF} {k i:Int}
end Takes
end
section
theorem about_kind{e:Ev}{K k i:Int}(h:about e K k i=true):e.kind=K:=by
 unfold about at h;simp at h;exact h.1
theorem early_kind{x:TF}{e:Ev}(h:early x e=true):e.kind=4:=by
 unfold early at h;simp at h;exact h.1
end
section
structure Sp where
 first:Int
 last:Int
 deriving DecidableEq
def join(out:List Sp)(d e:Int):List Sp :=
 match out.getLast? with
 | some s=>if s.last=d-1 then out.dropLast++[⟨s.first,e-1⟩] else out++[⟨d,e-1⟩]
 | none=>out++[⟨d,e-1⟩]
def spansGo(p:Int->Bool):List Int->List Sp->List Sp
 | d::e::l,out=>spansGo p (e::l) (if p d then join out d e else out)
 | _,out=>out
end
section
def givesB(e:Ev):Bool:=e.kind==0||(e.kind==2||e.kind==5)
def givingGo:List Ev->Int->List Int
 | [],_=>[]
 | e::l,n=>if givesB e then n::givingGo l (n+1) else givingGo l (n+1)
def giving(x:TF):List Int:=givingGo x.events 0
def withGo(L:List Int):List Ev->Int->List Ev
 | [],_=>[]
 | e::l,n=>if !givesB e||L.contains n then e::withGo L l (n+1) else withGo L l (n+1)
def withE(x:TF)(L:List Int):TF:={ x with events:=withGo L x.events 0 }
def holdsB(x:TF)(k i d:Int)(L:List Int):Bool:=decide (0<=dateOn (withE x L) k i d)
theorem mem_with{L:List Int}{e:Ev}:∀ {l:List Ev} {n:Int},e∈withGo L l n↔∃ j:Nat,l[j]?=some e/\(givesB e=false\/(n+(j:Int))∈L)
 | [],n=>by simp[withGo]
 | c::l,n=>by
  have ih:=mem_with (L:=L) (e:=e) (l:=l) (n:=n+1);have hstep:(∃ j:Nat,(c::l)[j]?=some e/\(givesB e=false\/(n+(j:Int))∈L))↔(c=e/\(givesB e=false\/n∈L))\/∃ j:Nat,l[j]?=some e/\(givesB e=false\/(n+1+(j:Int))∈L):=by
   constructor
   ·rintro⟨j,h1,h2⟩;cases j with
    | zero=>simp at h1;left;exact⟨h1,by simpa using h2⟩
    | succ j =>
     right;refine⟨j,by simpa using h1,?_⟩;rw[show n+1+(j:Int)=n+((j+1:Nat):Int) by omega];exact h2
   ·rintro(⟨h1,h2⟩|⟨j,h1,h2⟩)
    ·exact⟨0,by simp[h1],by simpa using h2⟩
    ·refine⟨j+1,by simpa using h1,?_⟩;rw[show n+((j+1:Nat):Int)=n+1+(j:Int) by omega];exact h2
  rw[hstep,withGo,<- ih];by_cases hc:(!givesB c||L.contains n)=true
  ·rw[if_pos hc,List.mem_cons];constructor
   ·rintro(rfl|h)
    ·left;refine⟨rfl,?_⟩;simpa using hc
    ·exact .inr h
   ·rintro(⟨rfl,_⟩|h)
    ·exact .inl rfl
    ·exact .inr h
  ·rw[if_neg hc];constructor
   ·exact fun h=>.inr h
   ·rintro(⟨rfl,h⟩|h)
    ·exact absurd (by simpa using h) hc
    ·exact h
theorem ok_with{x:TF}(v:Ok x)(L:List Int):Ok (withE x L):=fun e he=>by
 obtain⟨j,h,_⟩:=mem_with.1 he;exact v e (List.mem_of_getElem? h)
theorem gives_kind{e:Ev}{K k i:Int}(h:about e K k i=true)(hK:K≠0/\K≠2/\K≠5):givesB e=false:=by
 have:=about_kind h;unfold givesB;simp;omega
theorem with_gives{x:TF}{L M:List Int}(h:∀ n∈L,n∈M)(k i:Int):Gives (withE x L) (withE x M) k i:=by
 have up:∀ e,e∈(withE x L).events->e∈(withE x M).events:=fun e he=>by
  obtain⟨j,h1,h2⟩:=mem_with.1 he;exact mem_with.2 ⟨j,h1,h2.imp id (h _)⟩
 have eq:∀ e,givesB e=false->(e∈(withE x M).events↔e∈(withE x L).events):=fun e he =>
  ⟨fun hm=>by
   obtain⟨j,h1,_⟩:=mem_with.1 hm;exact mem_with.2 ⟨j,h1,.inl he⟩,up e⟩
 have hh:∀ K,(K≠0/\K≠2/\K≠5)->∀ t,has (withE x M) k i K t↔has (withE x L) k i K t:=fun K hK t =>
  ⟨fun ⟨e,h1,h2,h3⟩=>⟨e,(eq e (gives_kind h2 hK)).1 h1,h2,h3⟩,fun ⟨e,h1,h2,h3⟩=>⟨e,up e h1,h2,h3⟩⟩
 refine⟨rfl,rfl,fun t ⟨e,h1,h2⟩=>⟨e,up e h1,h2⟩,hh 1 (by decide),fun t ⟨e,h1,h2⟩=>⟨e,up e h1,h2⟩,hh 3 (by decide),fun t ⟨e,h1,h2⟩=>⟨e,up e h1,h2⟩,fun t=>?_,fun t s=>?_⟩
 ·refine⟨fun ⟨e,h1,h2,h3⟩=>⟨e,(eq e ?_).1 h1,h2,h3⟩,fun ⟨e,h1,h2⟩=>⟨e,up e h1,h2⟩⟩;have:=early_kind h2;unfold givesB;simp;omega
 ·exact⟨fun ⟨e,h1,h2,h3⟩=>⟨e,(eq e (gives_kind h2 (by decide))).1 h1,h2,h3⟩,fun ⟨e,h1,h2⟩=>⟨e,up e h1,h2⟩⟩
theorem holds_more{x:TF}(v:Ok x){L M:List Int}(h:∀ n∈L,n∈M){k i d:Int}(hL:holdsB x k i d L=true):holdsB x k i d M=true:=by
 unfold holdsB at *;rw[decide_eq_true_eq] at *;exact((with_gives h k i).noLess (ok_with v L) (ok_with v M) hL).1
theorem mem_giving{m:Int}:∀ {l:List Ev} {n:Int},m∈givingGo l n↔∃ (j:Nat) (e:Ev),l[j]?=some e/\givesB e=true/\m=n+(j:Int)
 | [],n=>by simp[givingGo]
 | c::l,n=>by
  have ih:=mem_giving (m:=m) (l:=l) (n:=n+1);have hstep:(∃ (j:Nat) (e:Ev),(c::l)[j]?=some e/\givesB e=true/\m=n+(j:Int))↔(givesB c=true/\m=n)\/∃ (j:Nat) (e:Ev),l[j]?=some e/\givesB e=true/\m=n+1+(j:Int):=by
   constructor
   ·rintro⟨j,e,h1,h2,h3⟩;cases j with
    | zero=>simp at h1;subst h1;exact .inl ⟨h2,by simpa using h3⟩
    | succ j=>exact .inr ⟨j,e,by simpa using h1,h2,by omega⟩
   ·rintro(⟨h1,h2⟩|⟨j,e,h1,h2,h3⟩)
    ·exact⟨0,c,rfl,h1,by simpa using h2⟩
    ·exact⟨j+1,e,by simpa using h1,h2,by omega⟩
  rw[hstep,givingGo,<- ih];by_cases hc:givesB c=true
  ·rw[if_pos hc,List.mem_cons];simp[hc]
  ·rw[if_neg hc];simp[hc]
theorem with_all(x:TF):withE x (giving x)=x:=by
 have key:∀ (l:List Ev) (n:Int) (L:List Int),(∀ (j:Nat) e,l[j]?=some e->givesB e=true->(n+(j:Int))∈L)->withGo L l n=l:=by
  intro l
  induction l with
  | nil=>intro n L _;rfl
  | cons c l ih =>
   intro n L h;rw[withGo,if_pos,ih]
   ·intro j e h1 h2;rw[show n+1+(j:Int)=n+((j+1:Nat):Int) by omega];exact h (j+1) e (by simpa using h1) h2
   ·cases hg:givesB c with
    | false=>rfl
    | true =>
     have:=h 0 c rfl hg;simpa using this
 unfold withE;have:=key x.events 0 (giving x) fun j e h1 h2=>mem_giving.2 ⟨j,e,h1,h2,rfl⟩;rw[this]
theorem giving_sorted:∀ (l:List Ev) (n:Int),(givingGo l n).Pairwise (·<·)
 | [],_=>.nil
 | c::l,n=>by
  rw[givingGo];have ih:=giving_sorted l (n+1);split
  ·refine List.pairwise_cons.2 ⟨fun m hm=>?_,ih⟩;obtain⟨j,e,_,_,h3⟩:=mem_giving.1 hm;omega
  ·exact ih
end
section
def inB(n a b:Int):Bool:=decide (a<=n)&&decide (n<=b)
def dayB(n:Int):Bool:=inB n 0 9999
def firstT{α:Type}(f:Nat->α->Int):Nat->List α->Int
 | _,[]=>0
 | i,x::l=>if f i x≠0 then f i x else firstT f (i+1) l
theorem firstT_zero{α:Type}{f:Nat->α->Int}:∀ {l:List α} {i:Nat},firstT f i l=0↔∀ (j:Nat) x,l[j]?=some x->f (i+j) x=0
 | [],i=>by simp[firstT]
 | y::l,i=>by
  rw[firstT];by_cases h:f i y≠0
  ·rw[if_pos h];exact⟨fun h1=>absurd h1 h,fun h1=>absurd (h1 0 y rfl) h⟩
  ·rw[if_neg h,firstT_zero];constructor
   ·intro h1 j x hx;cases j with
    | zero=>simp at hx;subst hx;simpa using h
    | succ j=>rw[show i+(j+1)=i+1+j by omega];exact h1 j x (by simpa using hx)
   ·intro h1 j x hx;rw[show i+1+j=i+(j+1) by omega];exact h1 (j+1) x (by simpa using hx)
def stepT(l:List Int)(below:Int)(i:Nat)(n:Int):Int:=if inB n 0 (below-1)=false then 6 else if 0<i/\n<=l.getD (i-1) 0 then 7 else 0
def itemsT(l:List Int)(below:Int):Int:=firstT (stepT l below) 0 l
def eventT(x:TF)(e:Ev):Int :=
 if (inB e.kind 0 6&&(dayB e.day&&dayB e.since))=false then 1
 else if inB e.land 0 (x.lands-1)=false then 6
 else if itemsT e.items x.items≠0 then itemsT e.items x.items
 else if (e.kind=4/\e.land≠0)\/(e.kind≠4/\e.kind≠6/\e.since≠0) then 1
 else if e.since>e.day then 7 else 0
def checkT(x:TF):Int :=
 if (inB x.items 0 5&&(inB x.lands 1 3&&(dayB x.start&&(dayB x.depend&&(dayB x.refuse&&dayB x.turn)))))=false then 1
 else if 10<x.events.length then 2 else firstT (fun _ e=>eventT x e) 0 x.events
theorem check_numbers{x:TF}(h:checkT x=0):(0<=x.items/\x.items<=5)/\(1<=x.lands/\x.lands<=3)/\(0<=x.start/\x.start<=9999)/\(0<=x.depend/\x.depend<=9999)/\(0<=x.refuse/\x.refuse<=9999)/\(0<=x.turn/\x.turn<=9999)/\x.events.length<=10:=by
 unfold checkT at h;split at h
 ·cases h
 ·rename_i h1;split at h
  ·cases h
  ·rename_i h2;simp[inB,dayB]at h1;omega
theorem check_event{x:TF}(h:checkT x=0):∀ e∈x.events,eventT x e=0:=by
 intro e he;obtain⟨j,hj⟩:=List.mem_iff_getElem?.1 he;unfold checkT at h;split at h
 ·cases h
 ·split at h
  ·cases h
  ·exact firstT_zero.1 h j e hj
structure EventOk(x:TF)(e:Ev):Prop where
 kind:0<=e.kind/\e.kind<=6
 day:0<=e.day/\e.day<=9999
 since:0<=e.since/\e.since<=e.day
 land:0<=e.land/\e.land<x.lands
 items:itemsT e.items x.items=0
 fall:e.kind=4->e.land=0
 date:e.kind≠4->e.kind≠6->e.since=0
theorem event_ok{x:TF}{e:Ev}:eventT x e=0↔EventOk x e:=by
 unfold eventT;constructor
 ·intro h;split at h
  ·cases h
  ·rename_i h1;split at h
   ·cases h
   ·rename_i h2;split at h
    ·rename_i h3;exact absurd h h3
    ·rename_i h3;split at h
     ·cases h
     ·rename_i h4;split at h
      ·cases h
      ·rename_i h5;simp[inB,dayB]at h1 h2;simp only[ne_eq,Decidable.not_not]at h3;exact⟨by omega,by omega,by omega,by omega,h3,by omega,by omega⟩
 ·intro h;obtain⟨a,b,c,d,e',f,g⟩:=h;rw[if_neg (by simp[inB,dayB];omega),if_neg (by simp[inB];omega),if_neg (by simp[e']),if_neg (by omega),if_neg (by omega)]
theorem check_ok{x:TF}(h:checkT x=0):Ok x:=fun e he=>by
 have:=event_ok.1 (check_event h e he);obtain⟨_,b,c,_⟩:=this;omega
theorem check_events{x:TF}(h:checkT x=0){l:List Ev}(h1:l.length<=10)(h2:∀ e∈l,EventOk x e):checkT { x with events:=l }=0:=by
 have hn:=check_numbers h;unfold checkT;rw[if_neg (by simp[inB,dayB];omega),if_neg (by show ¬ 10<l.length;omega)];refine firstT_zero.2 fun j e hj=>?_;have:=event_ok.2 (h2 e (List.mem_of_getElem? hj));exact this
end
section
theorem sorted_one:∀ {l m:List Int},l.Pairwise (·<·)->m.Pairwise (·<·)->(∀ v,v∈l↔v∈m)->l=m
 | [],[],_,_,_=>rfl
 | [],b::m,_,_,h=>by simpa using (h b).2 (by simp)
 | a::l,[],_,_,h=>by simpa using (h a).1 (by simp)
 | a::l,b::m,hl,hm,h=>by
  have l1:=List.pairwise_cons.1 hl;have m1:=List.pairwise_cons.1 hm;have hab:a=b:=by
   rcases List.mem_cons.1 ((h a).1 (by simp)) with e|e
   ·exact e
   ·rcases List.mem_cons.1 ((h b).2 (by simp)) with e2|e2
    ·exact e2.symm
    ·have:=m1.1 a e;have:=l1.1 b e2;omega
  subst hab;congr 1;refine sorted_one l1.2 m1.2 fun v=>?_;constructor
  ·intro hv;rcases List.mem_cons.1 ((h v).1 (List.mem_cons_of_mem _ hv)) with e|e
   ·have:=l1.1 v hv;omega
   ·exact e
  ·intro hv;rcases List.mem_cons.1 ((h v).2 (List.mem_cons_of_mem _ hv)) with e|e
   ·have:=m1.1 v hv;omega
   ·exact e
structure IsDays(x:TF)(l:List Int):Prop where
 up:l.Pairwise (·<·)
 mem:∀ v,v∈l↔v=0\/v=10000\/∃ e∈x.events,e.day=v
theorem IsDays.one{x:TF}{l m:List Int}(a:IsDays x l)(b:IsDays x m):l=m:=sorted_one a.up b.up fun v=>by rw[a.mem,b.mem]
def spansT(x:TF)(k i:Int)(l:List Int):List Sp:=spansGo (fun d=>decide (0<=dateOn x k i d)) l []
end
section
def cmpI(x y:Int):Int:=if x<y then -1 else if x>y then 1 else 0
def cmpL:List Int->List Int->Int
 | [],[]=>0
 | [],_::_=>-1
 | _::_,[]=>1
 | x::xs,y::ys=>if cmpI x y≠0 then cmpI x y else cmpL xs ys
def fewerF(a b:List Int):Int:=if a.length≠b.length then (a.length:Int)-b.length else cmpL a b
theorem cmpI_neg(x y:Int):cmpI y x = - cmpI x y:=by unfold cmpI;repeat' split<;>omega
theorem cmpI_zero{x y:Int}:cmpI x y=0↔x=y:=by unfold cmpI;repeat' split<;>omega
theorem cmpL_neg:∀ a b:List Int,cmpL b a = - cmpL a b:=by
 intro a
 induction a with
 | nil=>intro b;cases b<;>rfl
 | cons x a ih =>
  intro b;cases b with
  | nil=>rfl
  | cons y b =>
   simp only[cmpL];rw[cmpI_neg x y,ih b];by_cases e:cmpI x y=0
   ·simp[e]
   ·rw[if_pos (by omega),if_pos e]
theorem cmpL_trans:∀ a b c:List Int,cmpL a b<=0->cmpL b c<=0->cmpL a c<=0:=by
 intro a
 induction a with
 | nil=>intro b c _ _;cases c<;>simp[cmpL]
 | cons x a ih =>
  intro b c h1 h2;cases b with
  | nil=>simp[cmpL]at h1
  | cons y b =>
   cases c with
   | nil=>simp[cmpL]at h2
   | cons z c =>
    simp only[cmpL]at h1 h2 ⊢;have:=ih b c;unfold cmpI at h1 h2 ⊢;by_cases a1:x<y
    ·by_cases a2:y<z
     ·rw[if_pos (by rw[if_pos (show x<z by omega)];omega),if_pos (show x<z by omega)];omega
     ·by_cases a3:y=z
      ·subst a3;simp[a1]
      ·have:y>z:=by omega
       simp[a2,this]at h2
    ·by_cases a4:x=y
     ·subst a4;simp at h1;by_cases a2:x<z
      ·simp[a2]
      ·by_cases a3:x=z
       ·subst a3;simp at h2 ⊢;exact this h1 h2
       ·have:x>z:=by omega
        simp[a2,this]at h2
     ·have:x>y:=by omega
      simp[a1,this]at h1
theorem fewer_neg(a b:List Int):fewerF b a = - fewerF a b:=by
 unfold fewerF;by_cases e:a.length=b.length
 ·rw[if_neg (by omega),if_neg (by omega),cmpL_neg a b]
 ·rw[if_pos (by omega),if_pos (by omega)];omega
theorem fewer_trans{a b c:List Int}(h1:fewerF a b<=0)(h2:fewerF b c<=0):fewerF a c<=0:=by
 unfold fewerF at *;by_cases e1:a.length=b.length
 ·rw[if_neg (by omega)]at h1;by_cases e2:b.length=c.length
  ·rw[if_neg (by omega)]at h2;rw[if_neg (by omega)];exact cmpL_trans a b c h1 h2
  ·rw[if_pos (by omega)]at h2;rw[if_pos (by omega)];omega
 ·rw[if_pos (by omega)]at h1;by_cases e2:b.length=c.length
  ·rw[if_pos (by omega)];omega
  ·rw[if_pos (by omega)]at h2;rw[if_pos (by omega)];omega
theorem fewer_self(a:List Int):fewerF a a<=0:=by
 have:=fewer_neg a a;omega
def tailsS:List Int->List (List Int)
 | []=>[]
 | x::r=>(([]:List Int)::tailsS r).map (x::·)++tailsS r
def subl(l:List Int):List (List Int):=[]::tailsS l
theorem mem_subl{l m:List Int}(h:m.Sublist l):m∈subl l:=by
 induction h with
 | slnil=>simp[subl]
 | @cons l₁ l₂ a h ih =>
  unfold subl at ih ⊢;rw[tailsS];rcases List.mem_cons.1 ih with rfl|ih
  ·simp
  ·exact List.mem_cons_of_mem _ (List.mem_append_right _ ih)
 | @cons_cons l₁ l₂ a h ih =>
  unfold subl at ih ⊢;rw[tailsS];exact List.mem_cons_of_mem _ (List.mem_append_left _ (List.mem_map.2 ⟨l₁,ih,rfl⟩))
theorem subl_sub:∀ {l m:List Int},m∈subl l->m.Sublist l:=by
 intro l
 induction l with
 | nil=>intro m h;simp[subl,tailsS]at h;subst h;exact List.Sublist.slnil
 | cons x l ih =>
  intro m h;unfold subl at h ih;rw[tailsS]at h;simp only[List.mem_cons,List.mem_append,List.mem_map]at h;rcases h with rfl|⟨w,hw,rfl⟩|h
  ·exact List.nil_sublist _
  ·exact(ih (by simpa using hw)).cons_cons x
  ·exact(ih (by simp[h])).cons x
theorem bits_of(p:Nat->Bool):∀ n,∃ j,j<2^n/\∀ b,b<n->j.testBit b=p b:=by
 intro n
 induction n with
 | zero=>exact⟨0,by omega,fun b hb=>by omega⟩
 | succ n ih =>
  obtain⟨j,hj,hb⟩:=ih;by_cases e:p n=true
  ·refine⟨2^n+j,by rw[Nat.pow_succ];omega,fun b hlt=>?_⟩;by_cases eb:b=n
   ·subst eb;rw[Nat.testBit_two_pow_add_eq,Nat.testBit_lt_two_pow hj,e];rfl
   ·rw[Nat.testBit_two_pow_add_gt (by omega)];exact hb b (by omega)
  ·refine⟨j,by rw[Nat.pow_succ];omega,fun b hlt=>?_⟩;by_cases eb:b=n
   ·subst eb;rw[Nat.testBit_lt_two_pow hj];simpa using e
   ·exact hb b (by omega)
theorem filter_sub{l m:List Int}(h:m.Sublist l):l.Nodup->l.filter (fun x=>decide (x∈m))=m:=by
 induction h with
 | slnil=>intro _;rfl
 | @cons l₁ l₂ a h ih =>
  intro hn;have hn':=List.nodup_cons.1 hn;have:a∉l₁:=fun hm=>hn'.1 (h.subset hm);rw[List.filter_cons,if_neg (by simp[this])];exact ih hn'.2
 | @cons_cons l₁ l₂ a h ih =>
  intro hn;have hn':=List.nodup_cons.1 hn;rw[List.filter_cons,if_pos (by simp)];congr 1;rw[<- ih hn'.2];refine List.filter_congr fun x hx=>?_;have hne:x≠a:=by rintro rfl;exact hn'.1 hx
  rw[ih hn'.2];simp[hne]
theorem cmpL_self:∀ l:List Int,cmpL l l=0
 | []=>rfl
 | x::l=>by rw[cmpL,if_neg (by simp[cmpI]),cmpL_self l]
theorem cmpL_eq:∀ {a b:List Int},cmpL a b=0->a=b
 | [],[],_=>rfl
 | [],_::_,h=>by simp[cmpL]at h
 | _::_,[],h=>by simp[cmpL]at h
 | x::a,y::b,h=>by
  rw[cmpL]at h;split at h
  ·rename_i h1;exact absurd h h1
  ·rename_i h1;have e:x=y:=cmpI_zero.1 (by simpa using h1);rw[e,cmpL_eq h]
theorem fewer_eq{a b:List Int}(h1:fewerF a b<=0)(h2:fewerF b a<=0):a=b:=by
 rw[fewer_neg a b]at h2;have h0:fewerF a b=0:=by omega
 unfold fewerF at h0;split at h0
 ·rename_i h;omega
 ·exact cmpL_eq h0
theorem subl_sorted:∀ {l:List Int},l.Pairwise (·<·)->(subl l).Pairwise fun a b=>cmpL a b<0:=by
 intro l
 induction l with
 | nil=>intro _;simp[subl,tailsS]
 | cons x l ih =>
  intro h;obtain⟨hx,hl⟩:=List.pairwise_cons.1 h;have ih:=ih hl;have hne:∀ b∈tailsS l,∃ y r,b=y::r/\y∈l:=by
   have key:∀ (l:List Int),∀ b∈tailsS l,∃ y r,b=y::r/\y∈l:=by
    intro l
    induction l with
    | nil=>intro b hb;simp[tailsS]at hb
    | cons z l ih =>
     intro b hb;rw[tailsS]at hb;simp only[List.mem_append,List.mem_map]at hb;rcases hb with⟨w,_,rfl⟩|hb
     ·exact⟨z,w,rfl,by simp⟩
     ·obtain⟨y,r,h1,h2⟩:=ih b hb;exact⟨y,r,h1,by simp[h2]⟩
   exact key l
  unfold subl at ih ⊢;rw[tailsS];refine List.pairwise_cons.2 ⟨fun b hb=>?_,List.pairwise_append.2 ⟨?_,(List.pairwise_cons.1 ih).2,fun a ha b hb=>?_⟩⟩
  ·have:∃ y r,b=y::r:=by
    rcases List.mem_append.1 hb with hb|hb
    ·obtain⟨w,_,rfl⟩:=List.mem_map.1 hb;exact⟨x,w,rfl⟩
    ·obtain⟨y,r,h1,_⟩:=hne b hb;exact⟨y,r,h1⟩
   obtain⟨y,r,rfl⟩:=this;simp[cmpL]
  ·refine List.Pairwise.map _ (fun a b hab=>?_) ih;rw[cmpL,if_neg (by simp[cmpI])];exact hab
  ·obtain⟨w,_,rfl⟩:=List.mem_map.1 ha;obtain⟨y,r,rfl,hy⟩:=hne b hb;have hlt:=hx y hy;have:cmpI x y = -1:=by unfold cmpI;rw[if_pos hlt]
   rw[cmpL,this,if_pos (by omega)];omega
def scanS(ok:List Int->Bool):List Int->List (List Int)->List Int
 | best,[]=>best
 | best,l::ls=>scanS ok (if decide (l.length<best.length)&&ok l then l else best) ls
theorem scan_spec(ok:List Int->Bool):∀ (ls:List (List Int)) (best:List Int),(∀ l∈ls,l.length=best.length->cmpL best l<=0)->ls.Pairwise (fun a b=>cmpL a b<0)->ok best=true ->
  ok (scanS ok best ls)=true/\(scanS ok best ls=best\/scanS ok best ls∈ls)/\fewerF (scanS ok best ls) best<=0/\∀ l∈ls,ok l=true->fewerF (scanS ok best ls) l<=0:=by
 intro ls
 induction ls with
 | nil=>intro best _ _ hb;exact⟨hb,.inl rfl,fewer_self _,fun l hl=>by simp at hl⟩
 | cons l ls ih =>
  intro best h1 h2 hb;obtain⟨h3,h4⟩:=List.pairwise_cons.1 h2;rw[scanS];by_cases e:(decide (l.length<best.length)&&ok l)=true
  ·rw[if_pos e];simp only[Bool.and_eq_true,decide_eq_true_eq]at e;obtain⟨a,b,c,d⟩:=ih l (fun l' hl' _=>Int.le_of_lt (h3 l' hl')) h4 e.2;have hlb:fewerF l best<=0:=by unfold fewerF;rw[if_pos (by omega)];omega
   refine⟨a,.inr ?_,fewer_trans c hlb,fun l' hl' ho=>?_⟩
   ·rcases b with b|b
    ·rw[b];simp
    ·simp[b]
   ·rcases List.mem_cons.1 hl' with rfl|hl'
    ·exact c
    ·exact d l' hl' ho
  ·rw[if_neg e];obtain⟨a,b,c,d⟩:=ih best (fun l' hl'=>h1 l' (by simp[hl'])) h4 hb;refine⟨a,?_,c,fun l' hl' ho=>?_⟩
   ·rcases b with b|b
    ·exact .inl b
    ·exact .inr (by simp[b])
   ·rcases List.mem_cons.1 hl' with rfl|hl'
    ·have hlen:best.length<=l'.length:=by
      apply Nat.le_of_not_lt;intro hlt;exact e (by simp[hlt,ho])
     refine fewer_trans c ?_;unfold fewerF;by_cases he:best.length=l'.length
     ·rw[if_neg (by omega)];exact h1 l' (by simp) he.symm
     ·rw[if_pos (by omega)];omega
    ·exact d l' hl' ho
end
section
def needT(x:TF)(k i d:Int):List Int:=scanS (holdsB x k i d) (giving x) (subl (giving x))
theorem holds_all(x:TF)(k i d:Int):holdsB x k i d (giving x)=decide (0<=dateOn x k i d):=by
 unfold holdsB;rw[with_all]
theorem need_spec{x:TF}{k i d:Int}(h:0<=dateOn x k i d):holdsB x k i d (needT x k i d)=true/\(needT x k i d).Sublist (giving x)/\∀ l,l.Sublist (giving x)->holdsB x k i d l=true->fewerF (needT x k i d) l<=0:=by
 have hs:(giving x).Pairwise (·<·):=giving_sorted x.events 0;have hall:holdsB x k i d (giving x)=true:=by rw[holds_all,decide_eq_true h]
 obtain⟨a,b,_,c⟩:=scan_spec (holdsB x k i d) (subl (giving x)) (giving x) (fun l hl e=>by
  have:=(subl_sub hl).eq_of_length e;rw[this,cmpL_self];exact Int.le_refl _) (subl_sorted hs) hall
 refine⟨a,?_,fun l hl hk=>c l (mem_subl hl) hk⟩;unfold needT;rcases b with b|b
 ·rw[b];exact List.Sublist.refl _
 ·exact subl_sub b
theorem need_one{x:TF}{k i d:Int}(h:0<=dateOn x k i d){l:List Int}(h1:l.Sublist (giving x))(h2:holdsB x k i d l=true)(h3:∀ m,m.Sublist (giving x)->holdsB x k i d m=true->fewerF l m<=0):l=needT x k i d:=by
 obtain⟨a,b,c⟩:=need_spec h;exact fewer_eq (h3 _ b a) (c l h1 h2)
theorem none_holds{x:TF}(v:Ok x){k i d:Int}(h:¬ 0<=dateOn x k i d){l:List Int}(hl:l.Sublist (giving x)):holdsB x k i d l=false:=by
 cases hb:holdsB x k i d l with
 | false=>rfl
 | true =>
  have:=holds_more v (M:=giving x) (fun n hn=>hl.subset hn) hb;rw[holds_all]at this;exact absurd (by simpa using this) h
end
end Go.TM.Tr
namespace Go.TM
section
theorem OwnRow.le{el:TypeId}{k:Nat}{h h':Cells}{p:Option Addr}{n c:Nat}{vs:List Value}(hl:h.le h')(o:OwnRow el k h p n c vs):OwnRow el k h' p n c vs:=by
 obtain⟨h1,h2|⟨r,cs,e1,e2,e3,e4,e5⟩⟩:=o
 ·exact⟨h1,.inl h2⟩
 ·exact⟨h1,.inr ⟨r,cs,e1,hl _ _ e2,e3,e4,e5⟩⟩
def NewIn(h₀:Cells)(p:Option Addr):Prop:=∀ a,p=some a->h₀ a.block=none
theorem NewIn.none{h₀:Cells}:NewIn h₀ none:=fun a h=>by cases h
theorem after_append{h₀ h h':Cells}{p p':Option Addr}(hle:h₀.le h)(hp:NewIn h₀ p)(hk:KeptBut p h h')(hp':p'=p\/∃ r,p'=some ⟨r,0,none⟩/\h r=none):h₀.le h'/\NewIn h₀ p':=by
 refine⟨fun r x hr=>hk r x (hle r x hr) fun a ha e=>?_,?_⟩
 ·have:=hp a ha;rw[e,hr]at this;cases this
 ·rcases hp' with rfl|⟨r,rfl,hr⟩
  ·exact hp
  ·intro a ha;cases ha;cases hx:h₀ r with
   | none=>rfl
   | some x=>rw[hle _ _ hx]at hr;cases hr
inductive Rows{α:Type}(Enc:α->List Value->Prop):List Value->List α->Prop
 | nil:Rows Enc [] []
 | snoc {vs:List Value} {l:List α} {x:α} {ws:List Value}:Rows Enc vs l->Enc x ws->Rows Enc (vs++ws) (l++[x])
theorem Rows.len{α:Type}{Enc:α->List Value->Prop}{k:Nat}(hk:∀ x ws,Enc x ws->ws.length=k){vs:List Value}{l:List α}(r:Rows Enc vs l):vs.length=l.length*k:=by
 induction r with
 | nil=>simp
 | snoc r he ih=>simp[ih,hk _ _ he,Nat.add_mul]
theorem Rows.at{α:Type}{Enc:α->List Value->Prop}{k:Nat}(hk:∀ x ws,Enc x ws->ws.length=k){vs:List Value}{l:List α}(r:Rows Enc vs l):∀ (i:Nat) x,l[i]?=some x->∃ ws,Enc x ws/\∀ (j:Nat) w,ws[j]?=some w->vs[i*k+j]?=some w:=by
 induction r with
 | nil=>intro i x h;simp at h
 | snoc r he ih =>
  rename_i vs l y ws;intro i x hi;have hlen:=r.len hk;by_cases hlt:i<l.length
  ·rw[List.getElem?_append_left hlt]at hi;obtain⟨us,h1,h2⟩:=ih i x hi;refine⟨us,h1,fun j w hj=>?_⟩;have hjl:j<us.length:=(List.getElem?_eq_some_iff.1 hj).1;rw[hk _ _ h1]at hjl;have:i*k+j<vs.length:=by
    rw[hlen]
    calc i*k+j<i*k+k:=by omega
     _=(i+1)*k:=by rw[Nat.add_mul];omega
     _<=l.length*k:=Nat.mul_le_mul_right _ hlt
   rw[List.getElem?_append_left this];exact h2 j w hj
  ·have hil:i=l.length:=by
    have:=(List.getElem?_eq_some_iff.1 hi).1;simp at this;omega
   subst hil;rw[List.getElem?_append_right (Nat.le_refl _),Nat.sub_self]at hi;simp at hi;subst hi;refine⟨ws,he,fun j w hj=>?_⟩;rw[List.getElem?_append_right (by omega),hlen];rw[show l.length*k+j-l.length*k=j by omega];exact hj
theorem Rows.sl{α:Type}{E:Cells->Addr->α->Prop}{Enc:α->List Value->Prop}{el:TypeId}{k:Nat}{h':Cells}{p:Option Addr}{n c:Nat}{vs:List Value}{l:List α}(hk:∀ x ws,Enc x ws->ws.length=k)(hpos:0<k)(hE:∀ a x ws,Enc x ws->(∀ (j:Nat) w,ws[j]?=some w->h'.cell? (a.add j)=some w)->E h' a x)
 (own:OwnRow el k h' p n c vs)(r:Rows Enc vs l)(hb:l.length<4611686018427387904):Sl E k h' p n l:=by
 have hlen:=r.len hk;obtain⟨h1,h2⟩:=own;have hn:n=l.length:=Nat.eq_of_mul_eq_mul_right hpos (h1.symm.trans hlen);refine⟨hn,hb,fun i x hx=>?_⟩;obtain⟨ws,e1,e2⟩:=r.at hk i x hx;rcases h2 with⟨rfl,rfl,rfl⟩|⟨b,cs,rfl,hr,hcs,hnc,hv⟩
 ·have:l=[]:=List.eq_nil_of_length_eq_zero hn.symm;subst this;simp at hx
 ·refine⟨_,rfl,hE _ _ _ e1 fun j w hj=>?_⟩;rw[add_plain,add_plain,Nat.zero_add];simp only[Cells.cell?,hr,Option.isSome_none,Bool.false_eq_true,if_false];exact hv _ _ (e2 j w hj)
def IntEnc(x:Int)(ws:List Value):Prop:=ws=[.int .i64 x]
theorem IntEnc.len:∀ x ws,IntEnc x ws->ws.length=1:=by rintro x _ rfl;rfl
theorem IntEnc.e{h':Cells}:∀ a x ws,IntEnc x ws->(∀ (j:Nat) w,ws[j]?=some w->h'.cell? (a.add j)=some w)->IntE h' a x:=by
 rintro a x _ rfl hc;exact hc 0 _ rfl
structure Growing{α:Type}(Enc:α->List Value->Prop)(el:TypeId)(k:Nat)(h₀ h:Cells)(p:Option Addr)(n c:Nat)(l:List α):Prop where
 row:∃ vs,OwnRow el k h p n c vs/\Rows Enc vs l
 new:NewIn h₀ p
theorem Growing.nil{α:Type}{Enc:α->List Value->Prop}{el:TypeId}{k:Nat}{h₀ h:Cells}:Growing Enc el k h₀ h none 0 0 []:=⟨⟨[],OwnRow.nil,.nil⟩,NewIn.none⟩
theorem Growing.le{α:Type}{Enc:α->List Value->Prop}{el:TypeId}{k:Nat}{h₀ h h':Cells}{p:Option Addr}{n c:Nat}{l:List α}(hl:h.le h')(g:Growing Enc el k h₀ h p n c l):Growing Enc el k h₀ h' p n c l:=by
 obtain⟨vs,h1,h2⟩:=g.row;exact⟨⟨vs,h1.le hl,h2⟩,g.new⟩
theorem Growing.count{α:Type}{Enc:α->List Value->Prop}{el:TypeId}{k:Nat}{h₀ h:Cells}{p:Option Addr}{n c:Nat}{l:List α}(hk:∀ x ws,Enc x ws->ws.length=k)(hpos:0<k)(g:Growing Enc el k h₀ h p n c l):n=l.length:=by
 obtain⟨vs,h1,h2⟩:=g.row;exact Nat.eq_of_mul_eq_mul_right hpos (h1.1.symm.trans (h2.len hk))
theorem Growing.sl{α:Type}{E:Cells->Addr->α->Prop}{Enc:α->List Value->Prop}{el:TypeId}{k:Nat}{h₀ h:Cells}{p:Option Addr}{n c:Nat}{l:List α}(hk:∀ x ws,Enc x ws->ws.length=k)(hpos:0<k)(hE:∀ a x ws,Enc x ws->(∀ (j:Nat) w,ws[j]?=some w->h.cell? (a.add j)=some w)->E h a x)
 (g:Growing Enc el k h₀ h p n c l)(hb:l.length<4611686018427387904):Sl E k h p n l:=by
 obtain⟨vs,h1,h2⟩:=g.row;exact h2.sl hk hpos hE h1 hb
section
variable {P:Program} {X:XP} {Q:Leaf->LH->Prop}
theorem t_grow{α:Type}{Enc:α->List Value->Prop}{h h₀:LH}{k:Value->T}{ts:Array TypeId}{ty sT xT el xe:TypeId}{s by_:Nat}{z:Value}{p:Option Addr}{n c mc:Nat}{b:Addr}{l:List α}{x:α}{ws:List Value}(h0:ts[0]?=some sT)(h1:ts[1]?=some xT)(hu:P.underlying sT=some (.slice el))(hx:P.underlying xT=some (.slice xe))
 (hi:(P.info? el).map (fun i=>(i.size,i.bytes,i.zero))=some (s,by_,some z))(hsz:z.cells.size=s)(hb:by_<=1024)(hn:n+1<=2^30)(g:Growing Enc el s h₀.get h.get p n c l)(hle:h₀.le h)(he:Enc x ws)(hl:ws.length=s)(hc:∀ (j:Nat) v,ws[j]?=some v->h.get.cell? (b.add j)=some v)(one:∀ v∈ws,isOne v=true)
 (hk:∀ p' c' h',h₀.le h'->(∀ r y,(∀ a,p=some a->a.block≠r)->h.get r=some y->h'.get r=some y)->Growing Enc el s h₀.get h'.get p' (n+1) c' (l++[x])->(k (.slice p' (n+1) c')).wp X P Q h'):(T.sem false (Builtin.append_ ts ty #[.slice p n c,.slice (some b) 1 mc]) k).wp X P Q h:=by
 obtain⟨vs,o,r⟩:=g.row;refine t_append h0 h1 hu hx hi hsz hb hn o (by rw[hl,Nat.one_mul]) hc one (by omega) fun p' c' h' a b c=>?_;obtain⟨l1,l2⟩:=after_append hle.1 g.new b c;refine hk p' c' _ ⟨l1,hle.2⟩ (fun r y hr hy=>b r y hy hr) ⟨⟨vs++ws,a,.snoc r he⟩,l2⟩
end
end
section
variable {P:Program}
theorem spawn_wk{f:FuncId}{first args cap hargs:Array Value}{hc:Cells}{s:Script}(hne:s≠[])(ha:(first++args)++cap=hargs)(c:FWK XW P .deferred f hargs ⟨hc,[],[],s⟩ fun _ _=>False) :
  Wk P (G (baseOf P [deferOf (.func (.func f) first cap) args]) []) ⟨hc,[],[],s⟩:=by
 obtain⟨⟨fn,hf,hb,hname⟩,hrun⟩:=c;have hgo:=hrun false _ (wk_closed P) [baseOf P []] (.inr ⟨rfl,rfl⟩) (fun _ _ _ _ _ _ _ hq=>hq.elim) rfl hne;have hbn:fn.body.isNone=false:=by cases h:fn.body<;>simp_all
 refine .step (N:=fun g h=>g=G (Frame.enter P f hargs .deferred) [baseOf P []]/\h=⟨hc,[],[],s⟩) hne ?_ ?_
 ·intro w hfit;refine⟨_,w,#[],hc,?_,Tr.refl hfit,by simp,rfl,rfl⟩;have hcall:(callFunc f hargs).runT P w #[]=(.ok (.enter f hargs) w,#[]):=by
   show ((program).bind _).runT P w #[]=_;simp only[program,Sem.bind,Sem.runT,hf,hname,hbn,Bool.false_eq_true,if_false];rfl
  have h1:(callFunc f hargs).run P w=.ok (.enter f hargs) w:=by rw[<- Sem.runT_fst _ _ _ #[],hcall]
  have h2:(callFunc f hargs).events P w #[]=#[]:=by show ((callFunc f hargs).runT P w #[]).2=_;rw[hcall]
  have hinv:invoke (deferOf (.func (.func f) first cap) args).target (deferOf (.func (.func f) first cap) args).args=callFunc f hargs:=by rw[<- ha];rfl
  have hnil:((deferOf (.func (.func f) first cap) args).target matches .nil)=false:=rfl;have hcd:∀ fr cs,callDeferred P fr cs none (deferOf (.func (.func f) first cap) args) w=.go (G (Frame.enter P f hargs .deferred) (fr::cs)) w (seen P fr.fn #[]):=by
   intro fr cs;unfold callDeferred;simp only[hinv,hnil,Bool.false_and,Bool.false_eq_true,if_false,hcall];rfl
  show unwind P false (baseOf P [deferOf (.func (.func f) first cap) args]) [] none w=_;unfold unwind;simp only[baseOf,deferOf];exact hcd _ _
 ·rintro _ _ ⟨rfl,rfl⟩;exact hgo
theorem spawnW{f:FuncId}{first args cap hargs:Array Value}{h:LH}{Q:LH->Prop}(F:Nat->Bool)(hc:Cells)(s:Script)(hne:s≠[])(ha:(first++args)++cap=hargs)(hhc:∀ r x,hc r=some x->x.1=false/\freezeC F h.get r=some x)
 (hgu:[]∉h.pend)(hch:∀ y∈s,y.1∈h.chans)(c:FWK XW P .deferred f hargs ⟨hc,[],[],s⟩ fun _ _=>False)(hQ:Q { h with get:=freezeC F h.get,pend:=h.pend++[s] }):SpawnW XT P (.func (.func f) first cap) args h Q:=by
 intro main R hR fr cs _ _ hst k d hk;obtain⟨rfl,_,h2,_,_⟩:=hR.2;refine h2 fr cs (h.add k) (fun r=>F r&&(h.get r).isSome) hc _ s ⟨hst⟩ ?_ hne hgu hch (spawn_wk hne ha c) ?_
 ·intro r x hx;obtain⟨a,b⟩:=hhc r x hx;refine⟨a,?_⟩;show freezeC _ (h.get.add k) r=_;rw[freezeC_add];exact Cells.add_left b
 ·have e:freezeC (fun r=>F r&&(h.get r).isSome) (h.add k).get=(freezeC F h.get).add k:=freezeC_add F h.get k;rw[e];refine hk { h with get:=freezeC F h.get,pend:=h.pend++[s] } ?_ hQ;intro r;rcases d r with hr|hr
  ·left;simp only[freezeC,hr]
  ·exact .inr hr
theorem drop_add{a k:Cells}{c:Nat}(hk:k c=none):dropC (a.add k) c=(dropC a c).add k:=by
 funext r;unfold dropC Cells.add;by_cases e:r=c
 ·subst e;simp[hk]
 ·simp[e]
theorem upd_add{a k:Cells}{c:Nat}{x:Bool×Obj}:(a.add k).upd c x=(a.upd c x).add k:=by
 funext r;unfold Cells.upd Cells.add;by_cases e:r=c<;>simp[e]
theorem Disj.drop{a k:Cells}(d:Disj a k)(c:Nat):Disj (dropC a c) k:=by
 intro r;rcases d r with hr|hr
 ·left;unfold dropC;split
  ·rfl
  ·exact hr
 ·exact .inr hr
theorem SpawnW.opened{v:Value}{args:Array Value}{h:LH}{Q:LH->Prop}(hgu:[]∉h.pend)(c s:Nat)(hs:h.get c=some (true,.chan 0 #[] false s s false))(hS:SpawnW XT P v args { h with get:=dropC h.get c,chans:=c::h.chans } Q):SpawnW XT P v args h Q:=by
 intro main R hR fr cs hat hstk hst k d hk;have hkc:k c=none:=by
  rcases d c with h'|h'
  ·rw[hs]at h';cases h'
  ·exact h'
 refine hR.2.2.2.2.1 _ (h.add k) c s hgu (Cells.add_left hs) ?_;have:=hS main R hR fr cs hat hstk hst k (d.drop c) hk;unfold LH.add at this ⊢;simp only[drop_add hkc];exact this
theorem commW_recv{last:Bool}{cases:Array CommCase}{shape:CommShape}{h:LH}{Q:Value->LH->Prop}(recv:∀ (k:Nat) (cc:CommCase),cases[k]?=some cc->∃ c z,cc=rcase c z/\c∈h.chans)(some_:h.pend≠[])
 (heads:∀ s∈h.pend,∃ (c:Nat) (φ:Value->Cells->Prop) (s':Script) (k:Nat) (z:Value),s=(c,φ)::s'/\cases[k]?=some (rcase c z))
 (hQ:∀ pre φ s post (k:Nat) c v hv z,h.pend=pre++((c,φ)::s)::post->cases[k]?=some (rcase c z)->Disj h.get hv->(∀ r x,hv r=some x->x.1=true)->φ v hv ->
   Q (commResult cases shape (k:Nat) v true) { h with get:=h.get.add hv,pend:=pre++cons' s post }):CommW XT P last cases shape h Q:=by
 intro main R hR fr cs _ _ _ hst k d hk;obtain⟨rfl,h1,_,_,_⟩:=hR.2;refine h1 fr cs cases shape (h.add k) ⟨hst,recv,some_,heads⟩ ?_;intro pre φ s post j c v hv z hp hcase hd hown hφ;have d1:Disj h.get hv:=hd.of_add_left;have d2:Disj k hv:=Disj.of_add_right d hd;have e:((h.get.add hv).add k)=((h.get.add k).add hv):=Cells.add_swap d2.symm;have:=hk _ { h with get:=h.get.add hv,pend:=pre++cons' s post } (Disj.add d d2.symm) (hQ pre φ s post j c v hv z hp hcase d1 hown hφ);unfold LH.add at this;simp only[e]at this;exact this
theorem CommW.closed{last:Bool}{cases:Array CommCase}{shape:CommShape}{h:LH}{Q:Value->LH->Prop}
 (hC:CommW XT P last cases shape h fun v h'=>Q v h'\/∃ c∈h'.chans,h'.pend=[]/\∀ s,h'.get c=none->Q v { h' with get:=h'.get.upd c (true,.chan 0 #[] false s s false),chans:=h'.chans.filter (·≠c) }):CommW XT P last cases shape h Q:=by
 intro main R hR fr cs hat hstk hl hst k d hk;refine hC main R hR fr cs hat hstk hl hst k d ?_;rintro v h' d' (hq|⟨c,hc,hp,hq⟩)
 ·exact hk v h' d' hq
 ·refine hR.2.2.2.2.2 _ (h'.add k) c hc hp ?_;intro hcn s;have hhc:h'.get c=none:=by
   cases hx:h'.get c with
   | none=>rfl
   | some x=>rw[show (h'.add k).get c=some x from Cells.add_left hx]at hcn;cases hcn
  have hkc:k c=none:=by
   have:=hcn;rw[show (h'.add k).get c=k c from Cells.add_right hhc]at this;exact this
  have d2:Disj (h'.get.upd c (true,.chan 0 #[] false s s false)) k:=by
   intro r;by_cases e:r=c
   ·right;rw[e];exact hkc
   ·rw[Cells.upd_ne _ _ e];exact d' r
  have:=hk v _ d2 (hq s hhc);unfold LH.add at this ⊢;simp only[upd_add];exact this
theorem commW_send{last:Bool}{c:Nat}{v z:Value}{φ:Value->Cells->Prop}{s:Script}{h:LH}{hv hr:Cells}{Q:Value->LH->Prop}(todo:h.todo=(c,φ)::s)(get:h.get=hv.add hr)(disj:Disj hv hr)(own:∀ r x,hv r=some x->x.1=true)
 (val:φ v hv)(hl:s=[]->last=true)(hQ:s≠[]->Q undef { h with get:=hr,todo:=s }):CommW XW P last #[scase c v z] .send h Q:=by
 intro main R hR fr cs hat hstk hlast hst k d hk;obtain⟨rfl,h1⟩:=hR.2;have hs:Sends P fr cs h c z v φ s hv hr:=⟨hat,hst,todo,get,disj,own,val⟩
 exact h1 fr cs (h.add k) c z v φ s hv (hr.add k) hstk (hs.frame d) (fun e=>hlast (hl e)) fun hne=>hk undef { h with get:=hr,todo:=s } (hs.rest d) (hQ hne)
end
section
variable {P:Program} {X:XP} {Q:Leaf->LH->Prop} {h:LH}
theorem t_spawn{v:Value}{args:Array Value}{k:T}(hs:SpawnW X P v args h fun h'=>k.wp X P Q h'):(T.spawn v args k).wp X P Q h:=hs
theorem t_comm{last:Bool}{cases:Array CommCase}{shape:CommShape}{k:Value->T}(hc:CommW X P last cases shape h fun v h'=>(k v).wp X P Q h'):(T.comm last cases shape k).wp X P Q h:=hc
theorem t_makeChan{t el:TypeId}{d:ChanDir}{s b:Nat}{z:Option Value}{K:Value->T}(hu:P.underlying t=some (.chan d el))(hi:(P.info? el).map (fun i=>(i.size,i.bytes,i.zero))=some (s,b,z))
 (hk:∀ r,h.get r=none->(K (.chan (some r))).wp X P Q { h with get:=h.get.upd r (true,.chan 0 #[] false 0 0 false) }):(T.sem false (Instr.makeChan t (.int .i64 0)) K).wp X P Q h:=by
 obtain⟨inf,g1,_,_,_⟩:=info_of hi;refine t_sem (A:=fun v h'=>∃ r,h.get r=none/\v=.chan (some r)/\h'=h.get.upd r (true,.chan 0 #[] false 0 0 false)) ?_ (by rintro v h' ⟨r,hr,rfl,rfl⟩;exact hk r hr);unfold Instr.makeChan;have e:IntKind.i64.max=9223372036854775807:=rfl;simp only[asInt,asIntOf,lwp_bind,lwp_pure,lwp_underlying hu,lwp_typeInfo g1];rw[if_neg (by rw[e];omega)];rw[lwp_bind];intro r hr;exact⟨r,hr,rfl,rfl⟩
theorem t_build0{K:Value->T}{t el:TypeId}{s b:Nat}{z:Option Value}(hu:P.underlying t=some (.slice el))(hi:(P.info? el).map (fun i=>(i.size,i.bytes,i.zero))=some (s,b,z))
 (hk:∀ r,h.get r=none->(K (.slice (some ⟨r,0,none⟩) 0 0)).wp X P Q { h with get:=h.get.upd r (true,.cells #[] el (0,0)) }):(T.sem false (Instr.buildSlice t 0 #[]) K).wp X P Q h:=by
 obtain⟨inf,g1,_,_,_⟩:=info_of hi;refine t_sem (A:=fun v h'=>∃ r,h.get r=none/\v=.slice (some ⟨r,0,none⟩) 0 0/\h'=h.get.upd r (true,.cells #[] el (0,0))) ?_ (by rintro v h' ⟨r,hr,rfl,rfl⟩;exact hk r hr);unfold Instr.buildSlice;simp only[lwp_bind,lwp_underlying hu,lwp_sizeOf g1,Nat.zero_mul,lwp_pure];rw[if_neg (by omega)];simp only[if_true,lwp_bind,lwp_pure];have hf:Instr.fill (fun i=>some (i*inf.size,inf.size)) (Array.map (fun x=>(#[]:Array Value)[x%(#[]:Array Value).size]!) (Array.range 0)) (#[]:Array (Nat×Value)).toList=some #[]:=by simp[Instr.fill]
 rw[hf];simp only[lwp_bind];exact lwp_newRow fun r hr=>⟨r,hr,rfl,rfl⟩
end
section
theorem Addr.add_add'(a:Addr)(x y:Nat):(a.add x).add y=a.add (x+y):=by
 unfold Addr.add;by_cases h1:x=0
 ·subst h1;simp
 ·by_cases h2:y=0
  ·subst h2;simp[h1]
  ·simp[h1,h2];omega
def ToldE{α:Type}(E:Cells->Addr->α->Prop)(Enc:α->List Value->Prop)(k:Nat)(h:Cells):Prop:=∀ a x,E h a x->∃ ws,Enc x ws/\ws.length=k/\(∀ (j:Nat) w,ws[j]?=some w->h.cell? (a.add j)=some w)/\∀ w∈ws,isOne w=true
theorem flat{α:Type}{E:Cells->Addr->α->Prop}{Enc:α->List Value->Prop}{k:Nat}{h:Cells}(he:ToldE E Enc k h){b:Addr}{n:Nat}{l:List α}(s:Sl E k h (some b) n l):∀ i,i<=l.length->∃ vs,Rows Enc vs (l.take i)/\vs.length=i*k/\(∀ (t:Nat) v,vs[t]?=some v->h.cell? (b.add t)=some v)/\∀ v∈vs,isOne v=true:=by
 intro i
 induction i with
 | zero=>intro _;exact⟨[],.nil,by simp,fun t v hv=>by simp at hv,fun v hv=>by simp at hv⟩
 | succ i ih =>
  intro hi;obtain⟨vs,h1,h2,h3,h4⟩:=ih (by omega);obtain⟨x,a,hx,ha,hE⟩:=s.at (i:=i) (by rw[s.1];omega);cases ha;obtain⟨ws,w1,w2,w3,w4⟩:=he _ _ hE;refine⟨vs++ws,?_,by rw[List.length_append,h2,w2,Nat.add_mul];omega,fun t v hv=>?_,fun v hv=>?_⟩
  ·rw[List.take_add_one,hx];exact h1.snoc w1
  ·by_cases ht:t<vs.length
   ·rw[List.getElem?_append_left ht]at hv;exact h3 t v hv
   ·rw[List.getElem?_append_right (by omega)]at hv;have:=w3 _ v hv;rw[Addr.add_add']at this;rw[show t=i*k+(t-vs.length) by omega];exact this
  ·rcases List.mem_append.1 hv with hv|hv
   ·exact h4 v hv
   ·exact w4 v hv
theorem Rows.append{α:Type}{Enc:α->List Value->Prop}{vs:List Value}{l:List α}(r:Rows Enc vs l){ws:List Value}{l':List α}(r':Rows Enc ws l'):Rows Enc (vs++ws) (l++l'):=by
 induction r' with
 | nil=>simpa using r
 | snoc r' he ih=>rw[<- List.append_assoc,<- List.append_assoc];exact ih.snoc he
section
variable {P:Program} {X:XP} {Q:Leaf->LH->Prop}
theorem t_append0{h:LH}{k:Value->T}{ts:Array TypeId}{ty sT xT el xe:TypeId}{s by_:Nat}{z:Option Value}{p q:Option Addr}{n c mc:Nat}(h0:ts[0]?=some sT)(h1:ts[1]?=some xT)(hu:P.underlying sT=some (.slice el))(hx:P.underlying xT=some (.slice xe))
 (hi:(P.info? el).map (fun i=>(i.size,i.bytes,i.zero))=some (s,by_,z))(hnc:n<=c)(hk:(k (.slice p n c)).wp X P Q h):(T.sem false (Builtin.append_ ts ty #[.slice p n c,.slice q 0 mc]) k).wp X P Q h:=by
 obtain⟨inf,g1,_,_,_⟩:=info_of hi;refine t_sem (A:=fun v h'=>v=.slice p n c/\h'=h.get) ?_ (by rintro v h' ⟨rfl,rfl⟩;exact hk);unfold Builtin.append_;rw[h0,h1];simp only[List.getElem?_toArray,List.getElem?_cons_zero,List.getElem?_cons_succ];simp only[lwp_bind,lwp_underlying hu,lwp_sizeOf g1,lwp_underlying hx,lwp_pure,Bool.false_eq_true,if_false,Bool.not_false,if_true,Builtin.lenOf,Nat.add_zero,if_pos hnc];cases q with
 | none =>
  simp only[Builtin.firstCells,lwp_pure];cases p with
  | none=>exact⟨rfl,rfl⟩
  | some a=>exact⟨rfl,rfl⟩
 | some b =>
  simp only[Builtin.firstCells,Nat.zero_mul];refine lwp_loads (l:=[]) rfl (fun t v hv=>by simp at hv) ?_;cases p with
  | none=>exact⟨rfl,rfl⟩
  | some a=>exact⟨rfl,rfl⟩
theorem OwnRow.le_cap{el:TypeId}{k:Nat}{h:Cells}{p:Option Addr}{n c:Nat}{vs:List Value}(o:OwnRow el k h p n c vs):n<=c:=by
 rcases o.2 with⟨_,h1,h2⟩|⟨_,_,_,_,_,h,_⟩
 ·omega
 ·exact h
theorem t_copy{α:Type}{E:Cells->Addr->α->Prop}{Enc:α->List Value->Prop}{h h₀:LH}{k:Value->T}{ts:Array TypeId}{ty sT xT el xe:TypeId}{s by_:Nat}{z:Value}{p q:Option Addr}{n c m mc:Nat}{l l1:List α}(h0:ts[0]?=some sT)(h1:ts[1]?=some xT)(hu:P.underlying sT=some (.slice el))(hx:P.underlying xT=some (.slice xe))
 (hi:(P.info? el).map (fun i=>(i.size,i.bytes,i.zero))=some (s,by_,some z))(hsz:z.cells.size=s)(hb:by_<=1024)(hn:n+m<=2^30)(g:Growing Enc el s h₀.get h.get p n c l)(hle:h₀.le h)(src:Sl E s h.get q m l1)(he:ToldE E Enc s h.get)
 (hk:∀ p' c' h',h₀.le h'->(∀ r y,(∀ a,p=some a->a.block≠r)->h.get r=some y->h'.get r=some y)->Growing Enc el s h₀.get h'.get p' (n+m) c' (l++l1)->(k (.slice p' (n+m) c')).wp X P Q h'):(T.sem false (Builtin.append_ ts ty #[.slice p n c,.slice q m mc]) k).wp X P Q h:=by
 obtain⟨vs,o,r⟩:=g.row;by_cases hm:m=0
 ·subst hm;have hl1:l1=[]:=List.eq_nil_of_length_eq_zero src.1.symm;subst hl1;refine t_append0 h0 h1 hu hx hi o.le_cap ?_;have:=hk p c h hle (fun r y _ hy=>hy) (by rw[List.append_nil];exact g);exact this
 ·obtain⟨x,b,_,hb',_⟩:=src.at (i:=0) (by omega);subst hb';obtain⟨ws,w1,w2,w3,w4⟩:=flat he src l1.length (Nat.le_refl _);rw[List.take_length]at w1;have hm':=src.1;refine t_append h0 h1 hu hx hi hsz hb hn o (by rw[w2,hm']) w3 w4 (by omega) fun p' c' h' a b c=>?_;obtain⟨l1',l2'⟩:=after_append hle.1 g.new b c;exact hk p' c' _ ⟨l1',hle.2⟩ (fun r y hr hy=>b r y hy hr) ⟨⟨vs++ws,a,r.append w1⟩,l2'⟩
theorem t_build0G{α:Type}{Enc:α->List Value->Prop}{h h₀:LH}{K:Value->T}{t el:TypeId}{s b:Nat}{z:Option Value}(hu:P.underlying t=some (.slice el))(hi:(P.info? el).map (fun i=>(i.size,i.bytes,i.zero))=some (s,b,z))(hle:h₀.le h)
 (hk:∀ r h',h.get r=none->h.le h'->Growing Enc el s h₀.get h'.get (some ⟨r,0,none⟩) 0 0 []->(K (.slice (some ⟨r,0,none⟩) 0 0)).wp X P Q h'):(T.sem false (Instr.buildSlice t 0 #[]) K).wp X P Q h:=by
 refine t_build0 hu hi fun r hr=>?_;refine hk r _ hr (LH.upd_le hr) ⟨⟨[],⟨by simp,.inr ⟨r,#[],rfl,Cells.upd_self _ _ _,by simp,Nat.le_refl _,fun j v hv=>by simp at hv⟩⟩,.nil⟩,fun a ha=>?_⟩;cases ha;cases hx:h₀.get r with
 | none=>rfl
 | some x=>rw[hle.1 _ _ hx]at hr;cases hr
end
end
section
def EventE(h:Cells)(a:Addr)(e:Tr.Ev):Prop:=h.cell? (a.add 0)=some (.int .i64 e.kind)/\h.cell? (a.add 1)=some (.int .i64 e.day)/\h.cell? (a.add 2)=some (.int .i64 e.land) /\
 (∃ q m c,h.cell? (a.add 3)=some (.slice q m c)/\m<=c/\Sl IntE 1 h q m e.items)/\h.cell? (a.add 4)=some (.int .i64 e.since)
theorem EventE.grow:Grow EventE:=fun _ _ _ _ hl h=>by
 obtain⟨h0,h1,h2,⟨q,m,c,h3,h5,h6⟩,h4⟩:=h;exact⟨hl _ _ h0,hl _ _ h1,hl _ _ h2,⟨q,m,c,hl _ _ h3,h5,h6.rd IntE.grow hl⟩,hl _ _ h4⟩
def EventEnc(h₀:Cells)(e:Tr.Ev)(ws:List Value):Prop:=∃ q m c,ws=[.int .i64 e.kind,.int .i64 e.day,.int .i64 e.land,.slice q m c,.int .i64 e.since]/\m<=c/\Sl IntE 1 h₀ q m e.items
theorem EventEnc.len{h₀:Cells}:∀ x ws,EventEnc h₀ x ws->ws.length=5:=by rintro x _ ⟨q,m,c,rfl,_⟩;rfl
theorem EventEnc.e{h₀ h':Cells}(hr:Rd h₀ h'):∀ a x ws,EventEnc h₀ x ws->(∀ (j:Nat) w,ws[j]?=some w->h'.cell? (a.add j)=some w)->EventE h' a x:=by
 rintro a x _ ⟨q,m,c,rfl,hc5,hs⟩ hc;exact⟨hc 0 _ rfl,hc 1 _ rfl,hc 2 _ rfl,⟨q,m,c,hc 3 _ rfl,hc5,hs.rd IntE.grow hr⟩,hc 4 _ rfl⟩
structure TC where
 p:Option Addr
 n:Nat
 c:Nat
def treatyV(f:TC)(x:Tr.TF):Value:=.agg #[.int .i64 x.items,.int .i64 x.lands,.int .i64 x.start,.int .i64 x.depend,.int .i64 x.refuse,.int .i64 x.turn,.slice f.p f.n f.c]
def TreatyR(h:Cells)(f:TC)(x:Tr.TF):Prop:=f.n<=f.c/\Sl EventE 5 h f.p f.n x.events
theorem TreatyR.rd{h h':Cells}{f:TC}{x:Tr.TF}(hr:Rd h h')(t:TreatyR h f x):TreatyR h' f x:=⟨t.1,t.2.rd EventE.grow hr⟩
theorem TreatyR.le{h h':Cells}{f:TC}{x:Tr.TF}(hl:h.le h')(t:TreatyR h f x):TreatyR h' f x:=t.rd (Rd.of_le hl)
end
end Go.TM
namespace Go.Y
section
set_option maxHeartbeats 0
set_option linter.unusedVariables false
set_option maxRecDepth 100000
variable {X:XP} {h:LH} {A:Value->LH->Prop}
def n35(ap:Option Addr)(an ac:Nat)(bp:Option Addr)(bn bc:Nat):T:=bif (↑an:Int) != (↑bn:Int) then .rt (.bool false) else .loop [false,.int .i64 0] (fun vs=>.popB vs fun b vs=>.pi vs fun n vs=>.unNil vs (bif decide (n<(↑an:Int)) then .need (0<=n/\n<(↑an:Int)) (.someA ap fun a=>.li (a.add (n.toNat*1)) fun n_1=>.need (0<=n/\n<(↑bn:Int)) (.someA bp fun a=>.li (a.add (n.toNat*1)) fun n_2=>bif n_1 != n_2 then .rn [false,n] else .ag [b,.int .i64 (wrap .i64 (n+1))])) else .bk [b,n])) (fun vs=>.popB vs fun b vs=>.pi vs fun n vs=>.unNil vs (.rt (.bool true))) (fun vs=>.popB vs fun b vs=>.pi vs fun n vs=>.unNil vs (.rt (.bool b))) fun x x_1=>.fail
theorem w35(ap:Option Addr)(an ac:Nat)(bp:Option Addr)(bn bc:Nat):FX X 23 #[.slice ap an ac,.slice bp bn bc] h A (n35 ap an ac bp bn bc):=fk [] [⟨0,[(4,.bool),(5,.int .i64)],[],[],[],[]⟩] [] Tryz.f23
def n49(n first last:Int):T:=bif decide (first<=n) then .rt (.bool (decide (n<=last))) else .rt (.bool false)
theorem w49(n first last:Int):FX X 29 #[n,first,last] h A (n49 n first last):=fk [] [] [] Tryz.f29
def n97(s1p:Option Addr)(s1n s1c:Nat)(s2p:Option Addr)(s2n s2c:Nat):T:=.loop [.int .i64 0,.int .i64 0] (fun vs=>.pi vs fun n vs=>.pi vs fun n_1 vs=>.unNil vs (bif decide (n_1<(↑s1n:Int)) then .need (0<=n_1/\n_1<(↑s1n:Int)) (.someA s1p fun a=>.li (a.add (n_1.toNat*1)) fun n_2=>bif decide (n_1>=(↑s2n:Int)) then .rn [.int .i64 1,n_1] else .need (0<=n_1/\n_1<(↑s2n:Int)) (.someA s2p fun a=>.li (a.add (n_1.toNat*1)) fun n_3=>.cI 78 #[n_2,n_3] fun n_4=>bif n_4 != 0 then .rn [n_4,n_1] else .ag [n,.int .i64 (wrap .i64 (n_1+1))])) else .bk [n,n_1])) (fun vs=>.pi vs fun n vs=>.pi vs fun n vs=>.unNil vs (bif decide ((↑s1n:Int)<(↑s2n:Int)) then .rt (.int .i64 (-1)) else .rt (.int .i64 0))) (fun vs=>.pi vs fun n vs=>.pi vs fun n_1 vs=>.unNil vs (.rt (.int .i64 n))) fun x x_1=>.fail
theorem w97(s1p:Option Addr)(s1n s1c:Nat)(s2p:Option Addr)(s2n s2c:Nat):FX X 62 #[.slice s1p s1n s1c,.slice s2p s2n s2c] h A (n97 s1p s1n s1c s2p s2n s2c):=fk [] [⟨0,[(4,.int .i64),(11,.int .i64)],[],[],[],[]⟩] [] Tryz.f62
def n100(sp:Option Addr)(sn sc:Nat)(v:Int):T:=.cI 77 #[.slice sp sn sc,v] fun n=>.rt (.bool (decide (n>=0)))
theorem w100(sp:Option Addr)(sn sc:Nat)(v:Int):FX X 61 #[.slice sp sn sc,v] h A (n100 sp sn sc v):=fk [] [] [] Tryz.f61
def n105(x y:Int):T:=.cB 95 #[x] fun b=>.cB 95 #[y] fun b_1=>bif b then bif b_1 then .rt (.int .i64 0) else .rt (.int .i64 (-1)) else bif b_1 then .rt (.int .i64 1) else bif decide (x<y) then .rt (.int .i64 (-1)) else bif decide (x>y) then .rt (.int .i64 1) else .rt (.int .i64 0)
theorem w105(x y:Int):FX X 78 #[x,y] h A (n105 x y):=fk [] [] [] Tryz.f78
def n106(sp:Option Addr)(sn sc:Nat)(v:Int):T:=.loop [.int .i64 0,.int .i64 0] (fun vs=>.pi vs fun n vs=>.pi vs fun n_1 vs=>.unNil vs (bif decide (n_1<(↑sn:Int)) then .need (0<=n_1/\n_1<(↑sn:Int)) (.someA sp fun a=>.li (a.add (n_1.toNat*1)) fun n_2=>bif v==n_2 then .rn [n_1,n_1] else .ag [n,.int .i64 (wrap .i64 (n_1+1))]) else .bk [n,n_1])) (fun vs=>.pi vs fun n vs=>.pi vs fun n vs=>.unNil vs (.rt (.int .i64 (-1)))) (fun vs=>.pi vs fun n vs=>.pi vs fun n_1 vs=>.unNil vs (.rt (.int .i64 n))) fun x x_1=>.fail
theorem w106(sp:Option Addr)(sn sc:Nat)(v:Int):FX X 77 #[.slice sp sn sc,v] h A (n106 sp sn sc v):=fk [] [⟨0,[(4,.int .i64),(8,.int .i64)],[],[],[],[]⟩] [] Tryz.f77
def n109(x:Int):T:=.rt (.bool (x != x))
theorem w109(x:Int):FX X 95 #[x] h A (n109 x):=fk [] [] [] Tryz.f95
end
section
set_option maxHeartbeats 0
set_option linter.unusedVariables false
set_option maxRecDepth 100000
variable {X:XP} {h:LH} {A:Value->LH->Prop}
def n2018(x_0 x_1 x_2 x_3 x_4 x_5:Int)(x_6p:Option Addr)(x_6n x_6c:Nat)(land day:Int):T:=.cT 18 #[.agg #[x_0,x_1,x_2,x_3,x_4,x_5,.slice x_6p x_6n x_6c],land,day] fun v vs=>.unS v fun a n c=>.unCons vs fun v vs=>.ui v fun n_1=>.unNil vs (.new 83 #[false,false,false,false,false] fun r=>.loop [.int .i64 0] (fun vs=>.pi vs fun n_2 vs=>.unNil vs (bif decide (n_2<(↑n:Int)) then .need (0<=n_2/\n_2<(↑n:Int)) (.someA a fun a=>.li (a.add (n_2.toNat*1)) fun n=>.need (0<=n_2/\n_2<(↑5:Int)) (.store ((Addr.add ⟨r,0,none⟩ (n_2.toNat*1)).add 0) (.bool (decide (n>=0))) (.ag [.int .i64 (wrap .i64 (n_2+1))]))) else .bk [n_2])) (fun vs=>.pi vs fun n_2 vs=>.unNil vs (.loadB (Addr.add ⟨r,0,none⟩ 0) fun b=>.loadB (Addr.add ⟨r,0,none⟩ 1) fun b_1=>.loadB (Addr.add ⟨r,0,none⟩ 2) fun b_2=>.loadB (Addr.add ⟨r,0,none⟩ 3) fun b_3=>.loadB (Addr.add ⟨r,0,none⟩ 4) fun b_4=>.sem false (Sem.bind (eqGuard BinOp.eql 83 (Operand.tmp 32) (Operand.tmp 33) (.agg #[b,b_1,b_2,b_3,b_4]) (.agg #[false,false,false,false,false])) fun __r=>binOp BinOp.eql 83 (.agg #[b,b_1,b_2,b_3,b_4]) (.agg #[false,false,false,false,false])) fun v=>.unB v fun b=>bif b then .sem false (Instr.makeSlice 57 (.int .i64 (↑n:Int)) (.int .i64 (↑n:Int))) fun v=>.unS v fun a n c=>.rt (.tuple #[.slice a n c,n_1]) else .sem false (Instr.sliceAt 83 (.pointer (some ⟨r,0,none⟩)) none (some (.int .i64 (↑n:Int))) (some (.int .i64 (↑n:Int)))) fun w=>.unS w fun a n c=>.rt (.tuple #[.slice a n c,n_1]))) (fun vs=>.pi vs fun n vs=>.unNil vs (.rt (.tuple #[.slice none 0 0,.int .i64 0]))) fun x x_6=>.fail)
theorem w2018(x_0 x_1 x_2 x_3 x_4 x_5:Int)(x_6p:Option Addr)(x_6n x_6c:Nat)(land day:Int):FX X 17 #[.agg #[x_0,x_1,x_2,x_3,x_4,x_5,.slice x_6p x_6n x_6c],land,day] h A (n2018 x_0 x_1 x_2 x_3 x_4 x_5 x_6p x_6n x_6c land day):=fk [3] [⟨0,[(22,.int .i64)],[3],[],[],[]⟩] [] Tryz.f17
def n2021(x_0 x_1 x_2 x_3 x_4 x_5:Int)(x_6p:Option Addr)(x_6n x_6c:Nat):T:=.blk (.cB 56 #[x_0,.int .i64 0,.int .i64 5] fun b=>bif !b then .rn [.int .i64 1] else .cB 56 #[x_1,.int .i64 1,.int .i64 3] fun b=>bif !b then .rn [.int .i64 1] else .cB 53 #[x_2] fun b=>bif !b then .rn [.int .i64 1] else .cB 53 #[x_3] fun b=>bif !b then .rn [.int .i64 1] else .cB 53 #[x_4] fun b=>bif !b then .rn [.int .i64 1] else .cB 53 #[x_5] fun b=>bif !b then .rn [.int .i64 1] else .ag [.int .i64 0]) (fun vs=>.pi vs fun n vs=>.unNil vs (bif decide ((↑x_6n:Int)>10) then .rt (.int .i64 2) else .loop [n,.int .i64 0] (fun vs=>.pi vs fun n vs=>.pi vs fun n_1 vs=>.unNil vs (bif decide (n_1<(↑x_6n:Int)) then .need (0<=n_1/\n_1<(↑x_6n:Int)) (.someA x_6p fun a=>.li ((a.add (n_1.toNat*5)).add 0) fun n_2=>.li ((a.add (n_1.toNat*5)).add 1) fun n_3=>.li ((a.add (n_1.toNat*5)).add 2) fun n_4=>.loadS ((a.add (n_1.toNat*5)).add 3) fun p n_5 c=>.li ((a.add (n_1.toNat*5)).add 4) fun n_6=>.cI 91 #[.agg #[x_0,x_1,x_2,x_3,x_4,x_5,.slice x_6p x_6n x_6c],.agg #[n_2,n_3,n_4,.slice p n_5 c,n_6]] fun n_7=>bif n_7 != 0 then .rn [n_7,n_1] else .ag [n,.int .i64 (wrap .i64 (n_1+1))]) else .bk [n,n_1])) (fun vs=>.pi vs fun n vs=>.pi vs fun n vs=>.unNil vs (.rt (.int .i64 0))) (fun vs=>.pi vs fun n vs=>.pi vs fun n_1 vs=>.unNil vs (.rt (.int .i64 n))) fun x x_6=>.fail)) (fun vs=>.pi vs fun n vs=>.unNil vs (.rt (.int .i64 n))) fun x x_6=>.fail
theorem w2021(x_0 x_1 x_2 x_3 x_4 x_5:Int)(x_6p:Option Addr)(x_6n x_6c:Nat):FX X 69 #[.agg #[x_0,x_1,x_2,x_3,x_4,x_5,.slice x_6p x_6n x_6c]] h A (n2021 x_0 x_1 x_2 x_3 x_4 x_5 x_6p x_6n x_6c):=fk [1,4] [⟨0,[(2,.int .i64),(47,.int .i64)],[1],[],[],[]⟩] [⟨3,[(2,.int .i64)],[1],[],[],[]⟩] Tryz.f69
def n2023(x_0 x_1 x_2 x_3 x_4 x_5:Int)(x_6p:Option Addr)(x_6n x_6c:Nat)(land item:Int):T:=.cI 39 #[.agg #[x_0,x_1,x_2,x_3,x_4,x_5,.slice x_6p x_6n x_6c],land,item] fun n=>bif n != 0 then .rt (.tuple #[.slice none 0 0,n]) else .sem false (Instr.makeMap 88 none) fun v=>.unM v fun a=>.sem false (Sem.bind (Instr.mapUpdate 88 (.map a) (.int .i64 0) (.bool true)) fun __r=>pure (.tuple #[])) fun x=>.sem false (Sem.bind (Instr.mapUpdate 88 (.map a) (.int .i64 10000) (.bool true)) fun __r=>pure (.tuple #[])) fun x=>.loop [.int .i64 0] (fun vs=>.pi vs fun n vs=>.unNil vs (bif decide (n<(↑x_6n:Int)) then .need (0<=n/\n<(↑x_6n:Int)) (.someA x_6p fun a_1=>.li ((a_1.add (n.toNat*5)).add 0) fun n_1=>.li ((a_1.add (n.toNat*5)).add 1) fun n_2=>.li ((a_1.add (n.toNat*5)).add 2) fun n_3=>.loadS ((a_1.add (n.toNat*5)).add 3) fun p n_4 c=>.li ((a_1.add (n.toNat*5)).add 4) fun n_5=>.sem false (Sem.bind (Instr.mapUpdate 88 (.map a) (.int .i64 n_2) (.bool true)) fun __r=>pure (.tuple #[])) fun x=>.ag [.int .i64 (wrap .i64 (n+1))]) else .bk [n])) (fun vs=>.pi vs fun n vs=>.unNil vs (.cl 40 #[.map a] fun v=>.unS v fun a n c=>.sem false (Instr.sliceAt 31 (.slice a n c) none (some (.int .i64 (wrap .i64 ((↑n:Int)-1)))) none) fun w=>.unS w fun a_1 n_1 c=>.loop [.slice none 0 0,.int .i64 0] (fun vs=>.popS vs fun a_2 n_2 c vs=>.pi vs fun n_3 vs=>.unNil vs (bif decide (n_3<(↑n_1:Int)) then .need (0<=n_3/\n_3<(↑n_1:Int)) (.someA a_1 fun a_3=>.li (a_3.add (n_3.toNat*1)) fun n_4=>.need (0<=wrap .i64 (n_3+1)/\wrap .i64 (n_3+1)<(↑n:Int)) (.someA a fun a=>.li (a.add ((wrap .i64 (n_3+1)).toNat*1)) fun n=>.cI 38 #[.agg #[x_0,x_1,x_2,x_3,x_4,x_5,.slice x_6p x_6n x_6c,land,item],n_4] fun n_5=>bif decide (n_5<0) then .ag [.slice a_2 n_2 c,.int .i64 (wrap .i64 (n_3+1))] else bif decide ((↑n_2:Int)>0) then .need (0<=wrap .i64 ((↑n_2:Int)-1)/\wrap .i64 ((↑n_2:Int)-1)<(↑n_2:Int)) (.someA a_2 fun a=>.li ((a.add ((wrap .i64 ((↑n_2:Int)-1)).toNat*2)).add 1) fun n_6=>bif n_6==wrap .i64 (n_4-1) then .need (0<=wrap .i64 ((↑n_2:Int)-1)/\wrap .i64 ((↑n_2:Int)-1)<(↑n_2:Int)) (.someA a_2 fun a=>.store (((a.add ((wrap .i64 ((↑n_2:Int)-1)).toNat*2)).add 1).add 0) (.int .i64 (wrap .i64 (n-1))) (.ag [.slice a_2 n_2 c,.int .i64 (wrap .i64 (n_3+1))])) else .sem false (Instr.buildSlice 62 1 #[(0,.agg #[n_4,.int .i64 (wrap .i64 (n-1))])]) fun v=>.unS v fun a n c_1=>.sem false (Builtin.append_ #[62,62] 62 #[.slice a_2 n_2 c,.slice a n c_1]) fun v=>.unS v fun a n c=>.ag [.slice a n c,.int .i64 (wrap .i64 (n_3+1))]) else .sem false (Instr.buildSlice 62 1 #[(0,.agg #[n_4,.int .i64 (wrap .i64 (n-1))])]) fun v=>.unS v fun a n c_1=>.sem false (Builtin.append_ #[62,62] 62 #[.slice a_2 n_2 c,.slice a n c_1]) fun v=>.unS v fun a n c=>.ag [.slice a n c,.int .i64 (wrap .i64 (n_3+1))])) else .bk [.slice a_2 n_2 c,n_3])) (fun vs=>.popS vs fun a n c vs=>.pi vs fun n_2 vs=>.unNil vs (.rt (.tuple #[.slice a n c,.int .i64 0]))) (fun vs=>.popS vs fun a n c vs=>.pi vs fun n vs=>.unNil vs (.rt (.tuple #[.slice none 0 0,.int .i64 0]))) fun x x_6=>.fail)) (fun vs=>.pi vs fun n vs=>.unNil vs (.rt (.tuple #[.slice none 0 0,.int .i64 0]))) fun x x_6=>.fail
theorem w2023(x_0 x_1 x_2 x_3 x_4 x_5:Int)(x_6p:Option Addr)(x_6n x_6c:Nat)(land item:Int):FX X 19 #[.agg #[x_0,x_1,x_2,x_3,x_4,x_5,.slice x_6p x_6n x_6c],land,item] h A (n2023 x_0 x_1 x_2 x_3 x_4 x_5 x_6p x_6n x_6c land item):=fk [3,11,13] [⟨0,[(31,.int .i64)],[3],[],[],[]⟩,⟨2,[(14,.slice),(51,.int .i64)],[3,13],[],[],[]⟩] [] Tryz.f19
def n2026(x_0 x_1 x_2 x_3 x_4 x_5:Int)(x_6p:Option Addr)(x_6n x_6c:Nat)(land day:Int):T:=.cI 37 #[.agg #[x_0,x_1,x_2,x_3,x_4,x_5,.slice x_6p x_6n x_6c],land,day] fun n=>bif n != 0 then .rt (.tuple #[.slice none 0 0,n]) else .loop [.slice none 0 0,.int .i64 0] (fun vs=>.popS vs fun a n c vs=>.pi vs fun n_1 vs=>.unNil vs (bif decide (n_1<x_0) then .cI 38 #[.agg #[x_0,x_1,x_2,x_3,x_4,x_5,.slice x_6p x_6n x_6c,land,n_1],day] fun n_2=>.sem false (Instr.buildSlice 31 1 #[(0,.int .i64 n_2)]) fun v=>.unS v fun a_1 n_3 c_1=>.sem false (Builtin.append_ #[31,31] 31 #[.slice a n c,.slice a_1 n_3 c_1]) fun v=>.unS v fun a n c=>.ag [.slice a n c,.int .i64 (wrap .i64 (n_1+1))] else .bk [.slice a n c,n_1])) (fun vs=>.popS vs fun a n c vs=>.pi vs fun n_1 vs=>.unNil vs (.rt (.tuple #[.slice a n c,.int .i64 0]))) (fun vs=>.popS vs fun a n c vs=>.pi vs fun n vs=>.unNil vs (.rt (.tuple #[.slice none 0 0,.int .i64 0]))) fun x x_6=>.fail
theorem w2026(x_0 x_1 x_2 x_3 x_4 x_5:Int)(x_6p:Option Addr)(x_6n x_6c:Nat)(land day:Int):FX X 18 #[.agg #[x_0,x_1,x_2,x_3,x_4,x_5,.slice x_6p x_6n x_6c],land,day] h A (n2026 x_0 x_1 x_2 x_3 x_4 x_5 x_6p x_6n x_6c land day):=fk [3] [⟨0,[(9,.slice),(20,.int .i64)],[3],[],[],[]⟩] [] Tryz.f18
def n2029(x_0 x_1 x_2 x_3 x_4 x_5:Int)(x_6p:Option Addr)(x_6n x_6c:Nat)(land day:Int):T:=.cI 37 #[.agg #[x_0,x_1,x_2,x_3,x_4,x_5,.slice x_6p x_6n x_6c],land,day] fun n=>bif n != 0 then .rt (.tuple #[.slice none 0 0,n]) else .loop [.slice none 0 0,.int .i64 0] (fun vs=>.popS vs fun a n c vs=>.pi vs fun n_1 vs=>.unNil vs (bif decide (n_1<x_0) then .cT 41 #[.agg #[x_0,x_1,x_2,x_3,x_4,x_5,.slice x_6p x_6n x_6c,land,n_1],day] fun v vs=>.unAgg v fun l=>.pi l fun n_2 vs_1=>.pi vs_1 fun n_3 vs_2=>.pi vs_2 fun n_4 vs_3=>.pi vs_3 fun n_5 vs_4=>.pi vs_4 fun n_6 vs_5=>.pi vs_5 fun n_7 vs_6=>.popS vs_6 fun a_1 n_8 c_1 vs_7=>.pi vs_7 fun n_9 vs_8=>.pi vs_8 fun n_10 vs_9=>.pi vs_9 fun n_11 vs_10=>.pi vs_10 fun n_12 vs_11=>.popB vs_11 fun b vs_12=>.unNil vs_12 (.unCons vs fun v vs=>.unB v fun b=>.unNil vs (bif b then .sem false (Instr.buildSlice 31 1 #[(0,.int .i64 n_1)]) fun v=>.unS v fun a_2 n_13 c_2=>.sem false (Builtin.append_ #[31,31] 31 #[.slice a n c,.slice a_2 n_13 c_2]) fun v=>.unS v fun a n c=>.ag [.slice a n c,.int .i64 (wrap .i64 (n_1+1))] else .ag [.slice a n c,.int .i64 (wrap .i64 (n_1+1))])) else .bk [.slice a n c,n_1])) (fun vs=>.popS vs fun a n c vs=>.pi vs fun n_1 vs=>.unNil vs (.rt (.tuple #[.slice a n c,.int .i64 0]))) (fun vs=>.popS vs fun a n c vs=>.pi vs fun n vs=>.unNil vs (.rt (.tuple #[.slice none 0 0,.int .i64 0]))) fun x x_6=>.fail
theorem w2029(x_0 x_1 x_2 x_3 x_4 x_5:Int)(x_6p:Option Addr)(x_6n x_6c:Nat)(land day:Int):FX X 20 #[.agg #[x_0,x_1,x_2,x_3,x_4,x_5,.slice x_6p x_6n x_6c],land,day] h A (n2029 x_0 x_1 x_2 x_3 x_4 x_5 x_6p x_6n x_6c land day):=fk [3,11] [⟨0,[(9,.slice),(22,.int .i64)],[3],[],[],[]⟩] [] Tryz.f20
def n2044(x_0 x_1 x_2 x_3 x_4 x_5:Int)(x_6p:Option Addr)(x_6n x_6c:Nat)(land item day:Int):T:=.new 24 #[x_0,x_1,x_2,x_3,x_4,x_5,.slice x_6p x_6n x_6c] fun r=>.new 3 #[land] fun r_1=>.new 3 #[item] fun r_2=>.new 3 #[day] fun r_3=>.li (Addr.add ⟨r,0,none⟩ 0) fun n=>.li (Addr.add ⟨r,0,none⟩ 1) fun n_1=>.li (Addr.add ⟨r,0,none⟩ 2) fun n_2=>.li (Addr.add ⟨r,0,none⟩ 3) fun n_3=>.li (Addr.add ⟨r,0,none⟩ 4) fun n_4=>.li (Addr.add ⟨r,0,none⟩ 5) fun n_5=>.loadS (Addr.add ⟨r,0,none⟩ 6) fun p n_6 c=>.li ⟨r_1,0,none⟩ fun n_7=>.li ⟨r_2,0,none⟩ fun n_8=>.li ⟨r_3,0,none⟩ fun n_9=>.cI 42 #[.agg #[n,n_1,n_2,n_3,n_4,n_5,.slice p n_6 c],n_7,n_8,n_9] fun n=>bif n != 0 then .rt (.tuple #[.slice none 0 0,false,n]) else .li (Addr.add ⟨r,0,none⟩ 0) fun n=>.li (Addr.add ⟨r,0,none⟩ 1) fun n_10=>.li (Addr.add ⟨r,0,none⟩ 2) fun n_11=>.li (Addr.add ⟨r,0,none⟩ 3) fun n_12=>.li (Addr.add ⟨r,0,none⟩ 4) fun n_13=>.li (Addr.add ⟨r,0,none⟩ 5) fun n_14=>.loadS (Addr.add ⟨r,0,none⟩ 6) fun p n_15 c=>.cl 43 #[.agg #[n,n_10,n_11,n_12,n_13,n_14,.slice p n_15 c]] fun v=>.unS v fun a n c=>.new 31 #[.slice none 0 0] fun r_4=>.store (Addr.add ⟨r_4,0,none⟩ 0) (.slice a n c) (.blk (.both (.sem false (Instr.makeChan 96 (.int .i64 0)) fun v=>.unC v fun a=>.both (.sem false (Instr.makeChan 97 (.int .i64 0)) fun v=>.unC v fun a_1=>.both (.new 96 #[.chan none] fun r=>.new 97 #[.chan none] fun r_5=>.store (Addr.add ⟨r,0,none⟩ 0) (.chan a) (.store (Addr.add ⟨r_5,0,none⟩ 0) (.chan a_1) (.ag [.pointer (some ⟨r,0,none⟩),.pointer (some ⟨r_5,0,none⟩)]))) (.new 97 #[.chan none] fun r=>.new 96 #[.chan none] fun r_5=>.store (Addr.add ⟨r_5,0,none⟩ 0) (.chan a) (.store (Addr.add ⟨r,0,none⟩ 0) (.chan a_1) (.ag [.pointer (some ⟨r_5,0,none⟩),.pointer (some ⟨r,0,none⟩)])))) (.both (.new 96 #[.chan none] fun r=>.both (.sem false (Instr.makeChan 97 (.int .i64 0)) fun v=>.unC v fun a_1=>.new 97 #[.chan none] fun r_5=>.store (Addr.add ⟨r,0,none⟩ 0) (.chan a) (.store (Addr.add ⟨r_5,0,none⟩ 0) (.chan a_1) (.ag [.pointer (some ⟨r,0,none⟩),.pointer (some ⟨r_5,0,none⟩)]))) (.new 97 #[.chan none] fun r_5=>.both (.sem false (Instr.makeChan 97 (.int .i64 0)) fun v=>.unC v fun a_1=>.store (Addr.add ⟨r,0,none⟩ 0) (.chan a) (.store (Addr.add ⟨r_5,0,none⟩ 0) (.chan a_1) (.ag [.pointer (some ⟨r,0,none⟩),.pointer (some ⟨r_5,0,none⟩)]))) (.store (Addr.add ⟨r,0,none⟩ 0) (.chan a) (.sem false (Instr.makeChan 97 (.int .i64 0)) fun v=>.unC v fun a=>.store (Addr.add ⟨r_5,0,none⟩ 0) (.chan a) (.ag [.pointer (some ⟨r,0,none⟩),.pointer (some ⟨r_5,0,none⟩)]))))) (.new 97 #[.chan none] fun r=>.both (.sem false (Instr.makeChan 97 (.int .i64 0)) fun v=>.unC v fun a_1=>.new 96 #[.chan none] fun r_5=>.store (Addr.add ⟨r_5,0,none⟩ 0) (.chan a) (.store (Addr.add ⟨r,0,none⟩ 0) (.chan a_1) (.ag [.pointer (some ⟨r_5,0,none⟩),.pointer (some ⟨r,0,none⟩)]))) (.new 96 #[.chan none] fun r_5=>.both (.sem false (Instr.makeChan 97 (.int .i64 0)) fun v=>.unC v fun a_1=>.store (Addr.add ⟨r_5,0,none⟩ 0) (.chan a) (.store (Addr.add ⟨r,0,none⟩ 0) (.chan a_1) (.ag [.pointer (some ⟨r_5,0,none⟩),.pointer (some ⟨r,0,none⟩)]))) (.store (Addr.add ⟨r_5,0,none⟩ 0) (.chan a) (.sem false (Instr.makeChan 97 (.int .i64 0)) fun v=>.unC v fun a=>.store (Addr.add ⟨r,0,none⟩ 0) (.chan a) (.ag [.pointer (some ⟨r_5,0,none⟩),.pointer (some ⟨r,0,none⟩)]))))))) (.both (.sem false (Instr.makeChan 97 (.int .i64 0)) fun v=>.unC v fun a=>.both (.sem false (Instr.makeChan 96 (.int .i64 0)) fun v=>.unC v fun a_1=>.both (.new 96 #[.chan none] fun r=>.new 97 #[.chan none] fun r_5=>.store (Addr.add ⟨r,0,none⟩ 0) (.chan a_1) (.store (Addr.add ⟨r_5,0,none⟩ 0) (.chan a) (.ag [.pointer (some ⟨r,0,none⟩),.pointer (some ⟨r_5,0,none⟩)]))) (.new 97 #[.chan none] fun r=>.new 96 #[.chan none] fun r_5=>.store (Addr.add ⟨r_5,0,none⟩ 0) (.chan a_1) (.store (Addr.add ⟨r,0,none⟩ 0) (.chan a) (.ag [.pointer (some ⟨r_5,0,none⟩),.pointer (some ⟨r,0,none⟩)])))) (.both (.new 96 #[.chan none] fun r=>.both (.sem false (Instr.makeChan 96 (.int .i64 0)) fun v=>.unC v fun a_1=>.new 97 #[.chan none] fun r_5=>.store (Addr.add ⟨r,0,none⟩ 0) (.chan a_1) (.store (Addr.add ⟨r_5,0,none⟩ 0) (.chan a) (.ag [.pointer (some ⟨r,0,none⟩),.pointer (some ⟨r_5,0,none⟩)]))) (.new 97 #[.chan none] fun r_5=>.sem false (Instr.makeChan 96 (.int .i64 0)) fun v=>.unC v fun a_1=>.store (Addr.add ⟨r,0,none⟩ 0) (.chan a_1) (.store (Addr.add ⟨r_5,0,none⟩ 0) (.chan a) (.ag [.pointer (some ⟨r,0,none⟩),.pointer (some ⟨r_5,0,none⟩)])))) (.new 97 #[.chan none] fun r=>.both (.sem false (Instr.makeChan 96 (.int .i64 0)) fun v=>.unC v fun a_1=>.new 96 #[.chan none] fun r_5=>.store (Addr.add ⟨r_5,0,none⟩ 0) (.chan a_1) (.store (Addr.add ⟨r,0,none⟩ 0) (.chan a) (.ag [.pointer (some ⟨r_5,0,none⟩),.pointer (some ⟨r,0,none⟩)]))) (.new 96 #[.chan none] fun r_5=>.sem false (Instr.makeChan 96 (.int .i64 0)) fun v=>.unC v fun a_1=>.store (Addr.add ⟨r_5,0,none⟩ 0) (.chan a_1) (.store (Addr.add ⟨r,0,none⟩ 0) (.chan a) (.ag [.pointer (some ⟨r_5,0,none⟩),.pointer (some ⟨r,0,none⟩)])))))) (.both (.new 96 #[.chan none] fun r=>.both (.sem false (Instr.makeChan 96 (.int .i64 0)) fun v=>.unC v fun a=>.both (.sem false (Instr.makeChan 97 (.int .i64 0)) fun v=>.unC v fun a_1=>.new 97 #[.chan none] fun r_5=>.store (Addr.add ⟨r,0,none⟩ 0) (.chan a) (.store (Addr.add ⟨r_5,0,none⟩ 0) (.chan a_1) (.ag [.pointer (some ⟨r,0,none⟩),.pointer (some ⟨r_5,0,none⟩)]))) (.new 97 #[.chan none] fun r_5=>.both (.sem false (Instr.makeChan 97 (.int .i64 0)) fun v=>.unC v fun a_1=>.store (Addr.add ⟨r,0,none⟩ 0) (.chan a) (.store (Addr.add ⟨r_5,0,none⟩ 0) (.chan a_1) (.ag [.pointer (some ⟨r,0,none⟩),.pointer (some ⟨r_5,0,none⟩)]))) (.store (Addr.add ⟨r,0,none⟩ 0) (.chan a) (.sem false (Instr.makeChan 97 (.int .i64 0)) fun v=>.unC v fun a=>.store (Addr.add ⟨r_5,0,none⟩ 0) (.chan a) (.ag [.pointer (some ⟨r,0,none⟩),.pointer (some ⟨r_5,0,none⟩)]))))) (.both (.sem false (Instr.makeChan 97 (.int .i64 0)) fun v=>.unC v fun a=>.both (.sem false (Instr.makeChan 96 (.int .i64 0)) fun v=>.unC v fun a_1=>.new 97 #[.chan none] fun r_5=>.store (Addr.add ⟨r,0,none⟩ 0) (.chan a_1) (.store (Addr.add ⟨r_5,0,none⟩ 0) (.chan a) (.ag [.pointer (some ⟨r,0,none⟩),.pointer (some ⟨r_5,0,none⟩)]))) (.new 97 #[.chan none] fun r_5=>.sem false (Instr.makeChan 96 (.int .i64 0)) fun v=>.unC v fun a_1=>.store (Addr.add ⟨r,0,none⟩ 0) (.chan a_1) (.store (Addr.add ⟨r_5,0,none⟩ 0) (.chan a) (.ag [.pointer (some ⟨r,0,none⟩),.pointer (some ⟨r_5,0,none⟩)])))) (.new 97 #[.chan none] fun r_5=>.both (.sem false (Instr.makeChan 96 (.int .i64 0)) fun v=>.unC v fun a=>.both (.sem false (Instr.makeChan 97 (.int .i64 0)) fun v=>.unC v fun a_1=>.store (Addr.add ⟨r,0,none⟩ 0) (.chan a) (.store (Addr.add ⟨r_5,0,none⟩ 0) (.chan a_1) (.ag [.pointer (some ⟨r,0,none⟩),.pointer (some ⟨r_5,0,none⟩)]))) (.store (Addr.add ⟨r,0,none⟩ 0) (.chan a) (.sem false (Instr.makeChan 97 (.int .i64 0)) fun v=>.unC v fun a=>.store (Addr.add ⟨r_5,0,none⟩ 0) (.chan a) (.ag [.pointer (some ⟨r,0,none⟩),.pointer (some ⟨r_5,0,none⟩)])))) (.sem false (Instr.makeChan 97 (.int .i64 0)) fun v=>.unC v fun a=>.sem false (Instr.makeChan 96 (.int .i64 0)) fun v=>.unC v fun a_1=>.store (Addr.add ⟨r,0,none⟩ 0) (.chan a_1) (.store (Addr.add ⟨r_5,0,none⟩ 0) (.chan a) (.ag [.pointer (some ⟨r,0,none⟩),.pointer (some ⟨r_5,0,none⟩)])))))) (.new 97 #[.chan none] fun r=>.both (.sem false (Instr.makeChan 96 (.int .i64 0)) fun v=>.unC v fun a=>.both (.sem false (Instr.makeChan 97 (.int .i64 0)) fun v=>.unC v fun a_1=>.new 96 #[.chan none] fun r_5=>.store (Addr.add ⟨r_5,0,none⟩ 0) (.chan a) (.store (Addr.add ⟨r,0,none⟩ 0) (.chan a_1) (.ag [.pointer (some ⟨r_5,0,none⟩),.pointer (some ⟨r,0,none⟩)]))) (.new 96 #[.chan none] fun r_5=>.both (.sem false (Instr.makeChan 97 (.int .i64 0)) fun v=>.unC v fun a_1=>.store (Addr.add ⟨r_5,0,none⟩ 0) (.chan a) (.store (Addr.add ⟨r,0,none⟩ 0) (.chan a_1) (.ag [.pointer (some ⟨r_5,0,none⟩),.pointer (some ⟨r,0,none⟩)]))) (.store (Addr.add ⟨r_5,0,none⟩ 0) (.chan a) (.sem false (Instr.makeChan 97 (.int .i64 0)) fun v=>.unC v fun a=>.store (Addr.add ⟨r,0,none⟩ 0) (.chan a) (.ag [.pointer (some ⟨r_5,0,none⟩),.pointer (some ⟨r,0,none⟩)]))))) (.both (.sem false (Instr.makeChan 97 (.int .i64 0)) fun v=>.unC v fun a=>.both (.sem false (Instr.makeChan 96 (.int .i64 0)) fun v=>.unC v fun a_1=>.new 96 #[.chan none] fun r_5=>.store (Addr.add ⟨r_5,0,none⟩ 0) (.chan a_1) (.store (Addr.add ⟨r,0,none⟩ 0) (.chan a) (.ag [.pointer (some ⟨r_5,0,none⟩),.pointer (some ⟨r,0,none⟩)]))) (.new 96 #[.chan none] fun r_5=>.sem false (Instr.makeChan 96 (.int .i64 0)) fun v=>.unC v fun a_1=>.store (Addr.add ⟨r_5,0,none⟩ 0) (.chan a_1) (.store (Addr.add ⟨r,0,none⟩ 0) (.chan a) (.ag [.pointer (some ⟨r_5,0,none⟩),.pointer (some ⟨r,0,none⟩)])))) (.new 96 #[.chan none] fun r_5=>.both (.sem false (Instr.makeChan 96 (.int .i64 0)) fun v=>.unC v fun a=>.both (.sem false (Instr.makeChan 97 (.int .i64 0)) fun v=>.unC v fun a_1=>.store (Addr.add ⟨r_5,0,none⟩ 0) (.chan a) (.store (Addr.add ⟨r,0,none⟩ 0) (.chan a_1) (.ag [.pointer (some ⟨r_5,0,none⟩),.pointer (some ⟨r,0,none⟩)]))) (.store (Addr.add ⟨r_5,0,none⟩ 0) (.chan a) (.sem false (Instr.makeChan 97 (.int .i64 0)) fun v=>.unC v fun a=>.store (Addr.add ⟨r,0,none⟩ 0) (.chan a) (.ag [.pointer (some ⟨r_5,0,none⟩),.pointer (some ⟨r,0,none⟩)])))) (.sem false (Instr.makeChan 97 (.int .i64 0)) fun v=>.unC v fun a=>.sem false (Instr.makeChan 96 (.int .i64 0)) fun v=>.unC v fun a_1=>.store (Addr.add ⟨r_5,0,none⟩ 0) (.chan a_1) (.store (Addr.add ⟨r,0,none⟩ 0) (.chan a) (.ag [.pointer (some ⟨r_5,0,none⟩),.pointer (some ⟨r,0,none⟩)]))))))))) (fun vs=>.popA vs fun a vs=>.popA vs fun a_1 vs=>.unNil vs (.loadS ⟨r_4,0,none⟩ fun p n c=>.need (0<=(↑n:Int)) (.loop [.int .i64 0] (fun vs=>.pi vs fun n_16 vs=>.unNil vs (bif decide (n_16<wrap .i64 (1*2^min (Int.toNat (↑n:Int)) 64)) then .new 3 #[.int .i64 0] fun r_5=>.store (Addr.add ⟨r_5,0,none⟩ 0) (.int .i64 n_16) (.spawn (.func (Fn.func 44) #[] #[.pointer (some ⟨r_4,0,none⟩),.pointer (some ⟨r_5,0,none⟩),.pointer (some ⟨r,0,none⟩),.pointer (some ⟨r_1,0,none⟩),.pointer (some ⟨r_2,0,none⟩),.pointer (some ⟨r_3,0,none⟩),.pointer (some a),.pointer (some a_1)]) #[] (.ag [.int .i64 (wrap .i64 (n_16+1))])) else .bk [n_16])) (fun vs=>.pi vs fun n_16 vs=>.unNil vs (.loop [.slice none 0 0,false,.int .i64 (wrap .i64 (1*2^min (Int.toNat (↑n:Int)) 64))] (fun vs=>.popS vs fun a_2 n c vs=>.popB vs fun b vs=>.pi vs fun n_17 vs=>.unNil vs (bif decide (n_17>0) then .loadC a fun p=>.loadC a_1 fun p_1=>.comm false #[{ chan:=.chan p,send:=none,zero:=.slice none 0 0 },{ chan:=.chan p_1,send:=none,zero:=.bool false }] CommShape.select fun v=>.unTup v fun l=>.unCons l fun v vs=>.ui v fun n_18=>.unCons vs fun v vs=>.unB v fun b_1=>.unCons vs fun v vs=>.unS v fun a n_19 c_1=>.unCons vs fun v vs=>.unB v fun b_2=>.unNil vs (bif n_18==0 then bif !b then .ag [.slice a n_19 c_1,true,n_17] else .cI 46 #[.slice a n_19 c_1,.slice a_2 n c] fun n_20=>bif decide (n_20<0) then .ag [.slice a n_19 c_1,true,n_17] else .ag [.slice a_2 n c,b,n_17] else bif n_18==1 then .ag [.slice a_2 n c,b,.int .i64 (wrap .i64 (n_17-1))] else .ag [.slice a_2 n c,b,n_17]) else .bk [.slice a_2 n c,b,n_17])) (fun vs=>.popS vs fun a n c vs=>.popB vs fun b vs=>.pi vs fun n_17 vs=>.unNil vs (.rt (.tuple #[.slice a n c,b,.int .i64 0]))) (fun vs=>.popS vs fun a n c vs=>.popB vs fun b vs=>.pi vs fun n_17 vs=>.unNil vs (.rt (.tuple #[.slice a n c,b,.int .i64 0]))) fun x x_6=>.fail)) (fun vs=>.pi vs fun n vs=>.unNil vs (.rt (.tuple #[.slice none 0 0,false,.int .i64 0]))) fun x x_6=>.fail))) (fun vs=>.popA vs fun a vs=>.popA vs fun a vs=>.unNil vs (.rt (.tuple #[.slice none 0 0,false,.int .i64 0]))) fun x x_6=>.fail)
theorem w2044(x_0 x_1 x_2 x_3 x_4 x_5:Int)(x_6p:Option Addr)(x_6n x_6c:Nat)(land item day:Int):FX X 21 #[.agg #[x_0,x_1,x_2,x_3,x_4,x_5,.slice x_6p x_6n x_6c],land,item,day] h A (n2044 x_0 x_1 x_2 x_3 x_4 x_5 x_6p x_6n x_6c land item day):=fk [] [⟨0,[(34,.int .i64)],[],[],[],[]⟩,⟨2,[(8,.slice),(9,.bool),(15,.int .i64)],[],[],[],[]⟩] [⟨6,[(13,.adr),(14,.adr)],[],[],[],[]⟩] Tryz.f21
def n2052(n first last:Int):T:=bif decide (first<=n) then .rt (.bool (decide (n<=last))) else .rt (.bool false)
theorem w2052(n first last:Int):FX X 56 #[n,first,last] h A (n2052 n first last):=fk [] [] [] Tryz.f56
def n2053(n:Int):T:=.cB 56 #[n,.int .i64 0,.int .i64 9999] fun b=>.rt (.bool b)
theorem w2053(n:Int):FX X 53 #[n] h A (n2053 n):=fk [] [] [] Tryz.f53
def n2054(x_0 x_1 x_2 x_3 x_4 x_5:Int)(x_6p:Option Addr)(x_6n x_6c:Nat)(e_0 e_1 e_2:Int)(e_3p:Option Addr)(e_3n e_3c:Nat)(e_4:Int):T:=.blk (.blk (.cB 56 #[e_0,.int .i64 0,.int .i64 6] fun b=>.ag [.bool !b]) (fun vs=>.popB vs fun b vs=>.unNil vs (bif b then .ag [b] else .blk (.cB 53 #[e_1] fun b=>.ag [.bool !b]) (fun vs=>.popB vs fun b vs=>.unNil vs (bif b then .ag [b] else .cB 53 #[e_4] fun b=>.ag [.bool !b])) (fun vs=>.popB vs fun b vs=>.unNil vs (.rn [b])) fun x x_6=>.fail)) (fun vs=>.popB vs fun b vs=>.unNil vs (.rn [b])) fun x x_6=>.fail) (fun vs=>.popB vs fun b vs=>.unNil vs (bif b then .rt (.int .i64 1) else .cB 56 #[e_2,.int .i64 0,.int .i64 (wrap .i64 (x_1-1))] fun b=>bif !b then .rt (.int .i64 6) else .loop [.int .i64 0,.int .i64 0] (fun vs=>.pi vs fun n vs=>.pi vs fun n_1 vs=>.unNil vs (bif decide (n_1<(↑e_3n:Int)) then .need (0<=n_1/\n_1<(↑e_3n:Int)) (.someA e_3p fun a=>.li (a.add (n_1.toNat*1)) fun n_2=>.cB 56 #[n_2,.int .i64 0,.int .i64 (wrap .i64 (x_0-1))] fun b=>bif !b then .rn [.int .i64 6,n_1] else bif decide (n_1>0) then .need (0<=wrap .i64 (n_1-1)/\wrap .i64 (n_1-1)<(↑e_3n:Int)) (.someA e_3p fun a=>.li (a.add ((wrap .i64 (n_1-1)).toNat*1)) fun n_3=>bif decide (n_2<=n_3) then .rn [.int .i64 7,n_1] else .ag [n,.int .i64 (wrap .i64 (n_1+1))]) else .ag [n,.int .i64 (wrap .i64 (n_1+1))]) else .bk [n,n_1])) (fun vs=>.pi vs fun n vs=>.pi vs fun n_1 vs=>.unNil vs (.need (0<=e_0/\e_0<(↑7:Int)) (.loadB (((Addr.add { block:=0,off:=0 } (e_0.toNat*4)).add 1).add 0) fun b=>.loadB (((Addr.add { block:=0,off:=0 } (e_0.toNat*4)).add 1).add 1) fun b_1=>.blk (.blk (.loadB (Addr.add { block:=2,off:=0 } 0) fun b_2=>.loadB (Addr.add { block:=2,off:=0 } 1) fun b_3=>.sem false (Sem.bind (eqGuard BinOp.eql 127 (Operand.tmp 64) (Operand.tmp 65) (.agg #[b,b_1]) (.agg #[b_2,b_3])) fun __r=>binOp BinOp.eql 127 (.agg #[b,b_1]) (.agg #[b_2,b_3])) fun v=>.unB v fun b=>bif b then .ag [.bool (e_4 != 0)] else .ag [false]) (fun vs=>.popB vs fun b_2 vs=>.unNil vs (bif b_2 then .ag [b_2] else bif !b then .ag [.bool (e_2 != 0)] else .ag [false])) (fun vs=>.popB vs fun b vs=>.unNil vs (.rn [b])) fun x x_6=>.fail) (fun vs=>.popB vs fun b vs=>.unNil vs (bif b then .rt (.int .i64 1) else bif decide (e_4>e_1) then .rt (.int .i64 7) else .rt (.int .i64 0))) (fun vs=>.popB vs fun b vs=>.unNil vs (.rt (.int .i64 n))) fun x x_6=>.fail))) (fun vs=>.pi vs fun n vs=>.pi vs fun n_1 vs=>.unNil vs (.rt (.int .i64 n))) fun x x_6=>.fail)) (fun vs=>.popB vs fun b vs=>.unNil vs (.rt (.int .i64 0))) fun x x_6=>.fail
theorem w2054(x_0 x_1 x_2 x_3 x_4 x_5:Int)(x_6p:Option Addr)(x_6n x_6c:Nat)(e_0 e_1 e_2:Int)(e_3p:Option Addr)(e_3n e_3c:Nat)(e_4:Int):FX X 91 #[.agg #[x_0,x_1,x_2,x_3,x_4,x_5,.slice x_6p x_6n x_6c],.agg #[e_0,e_1,e_2,.slice e_3p e_3n e_3c,e_4]] h A (n2054 x_0 x_1 x_2 x_3 x_4 x_5 x_6p x_6n x_6c e_0 e_1 e_2 e_3p e_3n e_3c e_4):=fk [2,3,7] [⟨1,[(4,.int .i64),(32,.int .i64)],[2,3],[],[],[]⟩] [⟨2000008,[(8,.bool)],[2,3],[],[],[]⟩,⟨2000063,[(63,.bool)],[2,3,7],[],[],[]⟩] Tryz.f91
def n2058(x_0 x_1 x_2 x_3 x_4 x_5:Int)(x_6p:Option Addr)(x_6n x_6c:Nat)(land item:Int):T:=.cI 52 #[.agg #[x_0,x_1,x_2,x_3,x_4,x_5,.slice x_6p x_6n x_6c],land] fun n=>bif n != 0 then .rt (.int .i64 n) else .cB 56 #[item,.int .i64 0,.int .i64 (wrap .i64 (x_0-1))] fun b=>bif b then .rt (.int .i64 n) else .rt (.int .i64 6)
theorem w2058(x_0 x_1 x_2 x_3 x_4 x_5:Int)(x_6p:Option Addr)(x_6n x_6c:Nat)(land item:Int):FX X 39 #[.agg #[x_0,x_1,x_2,x_3,x_4,x_5,.slice x_6p x_6n x_6c],land,item] h A (n2058 x_0 x_1 x_2 x_3 x_4 x_5 x_6p x_6n x_6c land item):=fk [3] [] [] Tryz.f39
def n2059(m:Option Nat):T:=.cl 58 #[.map m] fun v=>.cl 57 #[v] fun v=>.unS v fun a n c=>.rt (.slice a n c)
theorem w2059(m:Option Nat):FX X 40 #[.map m] h A (n2059 m):=fk [] [] [] Tryz.f40
def n2060(m_0 m_1 m_2 m_3 m_4 m_5 : Int)(m_6p : Option Addr)(m_6n m_6c : Nat)(m_7 m_8 day : Int) : T := .cl 54 #[.agg #[m_0, .int .i64 m_1, .int .i64 m_2, .int .i64 m_3, .int .i64 m_4, .int .i64 m_5, .slice m_6p m_6n m_6c, .int .i64 m_7, .int .i64 m_8]] fun v => .unS v fun a n c => .loop [.int .i64 10000, .int .i64 0, .int .i64 m_0, .int .i64 m_1, .int .i64 m_2, .int .i64 m_3, .int .i64 m_4, .int .i64 m_5, .slice m_6p m_6n m_6c, .int .i64 m_7, .int .i64 m_8, .int .i64 day] (fun vs => .pi vs fun n_1 vs => .pi vs fun n_2 vs => .pi vs fun n_3 vs => .pi vs fun n_4 vs => .pi vs fun n_5 vs => .pi vs fun n_6 vs => .pi vs fun n_7 vs => .pi vs fun n_8 vs => .popS vs fun a_1 n_9 c vs => .pi vs fun n_10 vs => .pi vs fun n_11 vs => .pi vs fun n_12 vs => .unNil vs (bif decide (n_2 < (↑n : Int)) then .need (0 <= n_2 /\ n_2 < (↑n : Int)) (.someA a fun a => .loadV (a.add (n_2.toNat * 1)) fun v => .callv false (.func (Fn.method "touchmark/treaty.on") #[v] #[]) #[n_12] fun v => .unTup v fun l => .unCons l fun v vs => .ui v fun n => .unCons vs fun v vs => .unB v fun b => .unNil vs (bif !b then .ag [n_1, .int .i64 (wrap .i64 (n_2 + 1)), .int .i64 n_3, .int .i64 n_4, .int .i64 n_5, .int .i64 n_6, .int .i64 n_7, .int .i64 n_8, .slice a_1 n_9 c, .int .i64 n_10, .int .i64 n_11, .int .i64 n_12] else .cl 55 #[.agg #[n_3, .int .i64 n_4, .int .i64 n_5, .int .i64 n_6, .int .i64 n_7, .int .i64 n_8, .slice a_1 n_9 c, .int .i64 n_10, .int .i64 n_11], .int .i64 6] fun v => .each v [n] (fun xs vs => .unCons xs fun v vs_1 => .unAgg v fun l => .pi l fun n_13 vs_2 => .pi vs_2 fun n_14 vs_3 => .pi vs_3 fun n_15 vs_4 => .popS vs_4 fun a n_16 c vs_5 => .pi vs_5 fun n_17 vs_6 => .unNil vs_6 (.unNil vs_1 (.pi vs fun n_18 vs => .unNil vs (bif decide (n_14 <= n_12) then bif decide (n_17 <= n) then .ag [.int .i64 (if n_17 < n_18 then n_17 else n_18)] else .ag [n_18] else .ag [n_18])))) (fun vs => .pi vs fun n vs => .unNil vs (.ag [.int .i64 (if n < n_1 then n else n_1), .int .i64 (wrap .i64 (n_2 + 1)), .int .i64 n_3, .int .i64 n_4, .int .i64 n_5, .int .i64 n_6, .int .i64 n_7, .int .i64 n_8, .slice a_1 n_9 c, .int .i64 n_10, .int .i64 n_11, .int .i64 n_12])) (fun vs => .pi vs fun n vs => .unNil vs (.ag [.int .i64 (if n < n_1 then n else n_1), .int .i64 (wrap .i64 (n_2 + 1)), .int .i64 n_3, .int .i64 n_4, .int .i64 n_5, .int .i64 n_6, .int .i64 n_7, .int .i64 n_8, .slice a_1 n_9 c, .int .i64 n_10, .int .i64 n_11, .int .i64 n_12])) (fun vs => .pi vs fun n vs => .unNil vs (.rn [n_1, .int .i64 n_2, .int .i64 n_3, .int .i64 n_4, .int .i64 n_5, .int .i64 n_6, .int .i64 n_7, .int .i64 n_8, .slice a_1 n_9 c, .int .i64 n_10, .int .i64 n_11, .int .i64 n_12])) fun x x_1 => .fail)) else .bk [n_1, .int .i64 n_2, .int .i64 n_3, .int .i64 n_4, .int .i64 n_5, .int .i64 n_6, .int .i64 n_7, .int .i64 n_8, .slice a_1 n_9 c, .int .i64 n_10, .int .i64 n_11, .int .i64 n_12])) (fun vs => .pi vs fun n vs => .pi vs fun n_1 vs => .pi vs fun n_2 vs => .pi vs fun n_3 vs => .pi vs fun n_4 vs => .pi vs fun n_5 vs => .pi vs fun n_6 vs => .pi vs fun n_7 vs => .popS vs fun a n_8 c vs => .pi vs fun n_9 vs => .pi vs fun n_10 vs => .pi vs fun n_11 vs => .unNil vs (bif n == 10000 then .rt (.int .i64 (-1)) else .rt (.int .i64 n))) (fun vs => .pi vs fun n vs => .pi vs fun n vs => .pi vs fun n vs => .pi vs fun n vs => .pi vs fun n vs => .pi vs fun n vs => .pi vs fun n vs => .pi vs fun n vs => .popS vs fun a n c vs => .pi vs fun n vs => .pi vs fun n vs => .pi vs fun n vs => .unNil vs (.rt (.int .i64 0))) fun x x_1 => .fail
theorem w2060(m_0 m_1 m_2 m_3 m_4 m_5:Int)(m_6p:Option Addr)(m_6n m_6c:Nat)(m_7 m_8 day:Int):FX X 38 #[.agg #[m_0,m_1,m_2,m_3,m_4,m_5,.slice m_6p m_6n m_6c,m_7,m_8],day] h A (n2060 m_0 m_1 m_2 m_3 m_4 m_5 m_6p m_6n m_6c m_7 m_8 day):=fk [2,3,8,10,11] [{ id:=2,slots:=[(45056,.int .i64)],ro:=[2,3,8],outs:=[],ps:=[.agg [.int .i64,.int .i64,.int .i64,.slice,.int .i64]] },⟨0,[(5,.int .i64),(15,.int .i64),(12288,.int .i64),(12289,.int .i64),(12290,.int .i64),(12291,.int .i64),(12292,.int .i64),(12293,.int .i64),(12294,.slice),(12295,.int .i64),(12296,.int .i64),(16384,.int .i64)],[],[],[],[]⟩] [] Tryz.f38
def n2063(x_0 x_1 x_2 x_3 x_4 x_5:Int)(x_6p:Option Addr)(x_6n x_6c:Nat)(land day:Int):T:=.cI 52 #[.agg #[x_0,x_1,x_2,x_3,x_4,x_5,.slice x_6p x_6n x_6c],land] fun n=>bif n != 0 then .rt (.int .i64 n) else .cB 53 #[day] fun b=>bif b then .rt (.int .i64 n) else .rt (.int .i64 1)
theorem w2063(x_0 x_1 x_2 x_3 x_4 x_5:Int)(x_6p:Option Addr)(x_6n x_6c:Nat)(land day:Int):FX X 37 #[.agg #[x_0,x_1,x_2,x_3,x_4,x_5,.slice x_6p x_6n x_6c],land,day] h A (n2063 x_0 x_1 x_2 x_3 x_4 x_5 x_6p x_6n x_6c land day):=fk [3] [] [] Tryz.f37
def n2064(m_0 m_1 m_2 m_3 m_4 m_5:Int)(m_6p:Option Addr)(m_6n m_6c:Nat)(m_7 m_8 day:Int):T:=.cl 59 #[.agg #[m_0,m_1,m_2,m_3,m_4,m_5,.slice m_6p m_6n m_6c,m_7,m_8]] fun v=>.unS v fun a n c=>.loop [false,.int .i64 0,.int .i64 0,.int .i64 0,.int .i64 0,.int .i64 0,.int .i64 0,.int .i64 0,.slice none 0 0,.int .i64 0,.int .i64 0,.int .i64 0,.int .i64 0,false] (fun vs=>.popB vs fun b vs=>.pi vs fun n_1 vs=>.pi vs fun n_2 vs=>.pi vs fun n_3 vs=>.pi vs fun n_4 vs=>.pi vs fun n_5 vs=>.pi vs fun n_6 vs=>.pi vs fun n_7 vs=>.popS vs fun a_1 n_8 c vs=>.pi vs fun n_9 vs=>.pi vs fun n_10 vs=>.pi vs fun n_11 vs=>.pi vs fun n_12 vs=>.popB vs fun b_1 vs=>.unNil vs (bif decide (n_1<(↑n:Int)) then .need (0<=n_1/\n_1<(↑n:Int)) (.someA a fun a=>.li ((a.add (n_1.toNat*12)).add 0) fun n=>.li ((a.add (n_1.toNat*12)).add 1) fun n_13=>.li ((a.add (n_1.toNat*12)).add 2) fun n_14=>.li ((a.add (n_1.toNat*12)).add 3) fun n_15=>.li ((a.add (n_1.toNat*12)).add 4) fun n_16=>.li ((a.add (n_1.toNat*12)).add 5) fun n_17=>.loadS ((a.add (n_1.toNat*12)).add 6) fun p n_18 c_1=>.li ((a.add (n_1.toNat*12)).add 7) fun n_19=>.li ((a.add (n_1.toNat*12)).add 8) fun n_20=>.li ((a.add (n_1.toNat*12)).add 9) fun n_21=>.li ((a.add (n_1.toNat*12)).add 10) fun n_22=>.loadB ((a.add (n_1.toNat*12)).add 11) fun b_2=>bif b_2 then .cB 56 #[day,n_22,.int .i64 (wrap .i64 (n_22+n_17))] fun b_3=>bif b_3 then .cB 60 #[.agg #[n,n_13,n_14,n_15,n_16,n_17,.slice p n_18 c_1,n_19,n_20,n_21,n_22,b_2],.int .i64 (wrap .i64 (n_22-1))] fun b_4=>bif !b_4 then bif !b then .ag [true,.int .i64 (wrap .i64 (n_1+1)),n,n_13,n_14,n_15,n_16,n_17,.slice p n_18 c_1,n_19,n_20,n_21,n_22,b_2] else bif decide (n_21<n_11) then .ag [true,.int .i64 (wrap .i64 (n_1+1)),n,n_13,n_14,n_15,n_16,n_17,.slice p n_18 c_1,n_19,n_20,n_21,n_22,b_2] else .ag [b,.int .i64 (wrap .i64 (n_1+1)),n_2,n_3,n_4,n_5,n_6,n_7,.slice a_1 n_8 c,n_9,n_10,n_11,n_12,b_1] else .ag [b,.int .i64 (wrap .i64 (n_1+1)),n_2,n_3,n_4,n_5,n_6,n_7,.slice a_1 n_8 c,n_9,n_10,n_11,n_12,b_1] else .ag [b,.int .i64 (wrap .i64 (n_1+1)),n_2,n_3,n_4,n_5,n_6,n_7,.slice a_1 n_8 c,n_9,n_10,n_11,n_12,b_1] else .ag [b,.int .i64 (wrap .i64 (n_1+1)),n_2,n_3,n_4,n_5,n_6,n_7,.slice a_1 n_8 c,n_9,n_10,n_11,n_12,b_1]) else .bk [b,n_1,n_2,n_3,n_4,n_5,n_6,n_7,.slice a_1 n_8 c,n_9,n_10,n_11,n_12,b_1])) (fun vs=>.popB vs fun b vs=>.pi vs fun n vs=>.pi vs fun n vs=>.pi vs fun n_1 vs=>.pi vs fun n_2 vs=>.pi vs fun n_3 vs=>.pi vs fun n_4 vs=>.pi vs fun n_5 vs=>.popS vs fun a n_6 c vs=>.pi vs fun n_7 vs=>.pi vs fun n_8 vs=>.pi vs fun n_9 vs=>.pi vs fun n_10 vs=>.popB vs fun b_1 vs=>.unNil vs (.rt (.tuple #[.agg #[n,n_1,n_2,n_3,n_4,n_5,.slice a n_6 c,n_7,n_8,n_9,n_10,b_1],b]))) (fun vs=>.popB vs fun b vs=>.pi vs fun n vs=>.pi vs fun n vs=>.pi vs fun n_1 vs=>.pi vs fun n_2 vs=>.pi vs fun n_3 vs=>.pi vs fun n_4 vs=>.pi vs fun n_5 vs=>.popS vs fun a n_6 c vs=>.pi vs fun n_7 vs=>.pi vs fun n_8 vs=>.pi vs fun n_9 vs=>.pi vs fun n_10 vs=>.popB vs fun b_1 vs=>.unNil vs (.rt (.tuple #[.agg #[n,n_1,n_2,n_3,n_4,n_5,.slice a n_6 c,n_7,n_8,n_9,n_10,b_1],b]))) fun x x_1=>.fail
theorem w2064(m_0 m_1 m_2 m_3 m_4 m_5:Int)(m_6p:Option Addr)(m_6n m_6c:Nat)(m_7 m_8 day:Int):FX X 41 #[.agg #[m_0,m_1,m_2,m_3,m_4,m_5,.slice m_6p m_6n m_6c,m_7,m_8],day] h A (n2064 m_0 m_1 m_2 m_3 m_4 m_5 m_6p m_6n m_6c m_7 m_8 day):=fk [2,4,7] [⟨0,[(5,.bool),(11,.int .i64),(20480,.int .i64),(20481,.int .i64),(20482,.int .i64),(20483,.int .i64),(20484,.int .i64),(20485,.int .i64),(20486,.slice),(20487,.int .i64),(20488,.int .i64),(20489,.int .i64),(20490,.int .i64),(20491,.bool)],[2],[],[],[]⟩] [] Tryz.f41
def n2066(x_0 x_1 x_2 x_3 x_4 x_5:Int)(x_6p:Option Addr)(x_6n x_6c:Nat)(land item day:Int):T:=.cI 39 #[.agg #[x_0,x_1,x_2,x_3,x_4,x_5,.slice x_6p x_6n x_6c],land,item] fun n=>bif n != 0 then .rt (.int .i64 n) else .cB 53 #[day] fun b=>bif b then .rt (.int .i64 n) else .rt (.int .i64 1)
theorem w2066(x_0 x_1 x_2 x_3 x_4 x_5:Int)(x_6p:Option Addr)(x_6n x_6c:Nat)(land item day:Int):FX X 42 #[.agg #[x_0,x_1,x_2,x_3,x_4,x_5,.slice x_6p x_6n x_6c],land,item,day] h A (n2066 x_0 x_1 x_2 x_3 x_4 x_5 x_6p x_6n x_6c land item day):=fk [4] [] [] Tryz.f42
def n2067(x_0 x_1 x_2 x_3 x_4 x_5:Int)(x_6p:Option Addr)(x_6n x_6c:Nat):T:=.loop [.slice none 0 0,.int .i64 0] (fun vs=>.popS vs fun a n c vs=>.pi vs fun n_1 vs=>.unNil vs (bif decide (n_1<(↑x_6n:Int)) then .need (0<=n_1/\n_1<(↑x_6n:Int)) (.someA x_6p fun a_1=>.li ((a_1.add (n_1.toNat*5)).add 0) fun n_2=>.li ((a_1.add (n_1.toNat*5)).add 1) fun n_3=>.li ((a_1.add (n_1.toNat*5)).add 2) fun n_4=>.loadS ((a_1.add (n_1.toNat*5)).add 3) fun p n_5 c_1=>.li ((a_1.add (n_1.toNat*5)).add 4) fun n_6=>.need (0<=n_2/\n_2<(↑7:Int)) (.loadV ((Addr.add { block:=0,off:=0 } (n_2.toNat*4)).add 3) fun v=>.callv false v #[] fun v=>.unB v fun b=>bif b then .sem false (Instr.buildSlice 31 1 #[(0,.int .i64 n_1)]) fun v=>.unS v fun a_2 n_7 c_2=>.sem false (Builtin.append_ #[31,31] 31 #[.slice a n c,.slice a_2 n_7 c_2]) fun v=>.unS v fun a n c=>.ag [.slice a n c,.int .i64 (wrap .i64 (n_1+1))] else .ag [.slice a n c,.int .i64 (wrap .i64 (n_1+1))])) else .bk [.slice a n c,n_1])) (fun vs=>.popS vs fun a n c vs=>.pi vs fun n_1 vs=>.unNil vs (.rt (.slice a n c))) (fun vs=>.popS vs fun a n c vs=>.pi vs fun n vs=>.unNil vs (.rt (.slice none 0 0))) fun x x_6=>.fail
theorem w2067(x_0 x_1 x_2 x_3 x_4 x_5:Int)(x_6p:Option Addr)(x_6n x_6c:Nat):FX X 43 #[.agg #[x_0,x_1,x_2,x_3,x_4,x_5,.slice x_6p x_6n x_6c]] h A (n2067 x_0 x_1 x_2 x_3 x_4 x_5 x_6p x_6n x_6c):=fk [1,5] [⟨0,[(3,.slice),(9,.int .i64)],[1],[],[],[]⟩] [] Tryz.f43
def n2069(x_0 x_1 x_2 x_3 x_4 x_5:Int)(x_6p:Option Addr)(x_6n x_6c:Nat)(land item day:Int)(eventsp:Option Addr)(eventsn eventsc:Nat):T:=.loop [.int .i64 0,x_0,x_1,x_2,x_3,x_4,x_5,.slice none 0 0] (fun vs=>.pi vs fun n vs=>.pi vs fun n_1 vs=>.pi vs fun n_2 vs=>.pi vs fun n_3 vs=>.pi vs fun n_4 vs=>.pi vs fun n_5 vs=>.pi vs fun n_6 vs=>.popS vs fun a n_7 c vs=>.unNil vs (bif decide (n<(↑x_6n:Int)) then .need (0<=n/\n<(↑x_6n:Int)) (.someA x_6p fun a_1=>.li ((a_1.add (n.toNat*5)).add 0) fun n_8=>.li ((a_1.add (n.toNat*5)).add 1) fun n_9=>.li ((a_1.add (n.toNat*5)).add 2) fun n_10=>.loadS ((a_1.add (n.toNat*5)).add 3) fun p n_11 c_1=>.li ((a_1.add (n.toNat*5)).add 4) fun n_12=>.need (0<=n_8/\n_8<(↑7:Int)) (.loadV ((Addr.add { block:=0,off:=0 } (n_8.toNat*4)).add 3) fun v=>.callv false v #[] fun v=>.unB v fun b=>bif !b then .sem false (Instr.buildSlice 22 1 #[(0,.agg #[n_8,n_9,n_10,.slice p n_11 c_1,n_12])]) fun v=>.unS v fun a_2 n_13 c_2=>.sem false (Builtin.append_ #[22,22] 22 #[.slice a n_7 c,.slice a_2 n_13 c_2]) fun v=>.unS v fun a n_14 c=>.ag [.int .i64 (wrap .i64 (n+1)),n_1,n_2,n_3,n_4,n_5,n_6,.slice a n_14 c] else .cB 61 #[.slice eventsp eventsn eventsc,n] fun b=>bif b then .sem false (Instr.buildSlice 22 1 #[(0,.agg #[n_8,n_9,n_10,.slice p n_11 c_1,n_12])]) fun v=>.unS v fun a_2 n_13 c_2=>.sem false (Builtin.append_ #[22,22] 22 #[.slice a n_7 c,.slice a_2 n_13 c_2]) fun v=>.unS v fun a n_14 c=>.ag [.int .i64 (wrap .i64 (n+1)),n_1,n_2,n_3,n_4,n_5,n_6,.slice a n_14 c] else .ag [.int .i64 (wrap .i64 (n+1)),n_1,n_2,n_3,n_4,n_5,n_6,.slice a n_7 c])) else .bk [n,n_1,n_2,n_3,n_4,n_5,n_6,.slice a n_7 c])) (fun vs=>.pi vs fun n vs=>.pi vs fun n vs=>.pi vs fun n_1 vs=>.pi vs fun n_2 vs=>.pi vs fun n_3 vs=>.pi vs fun n_4 vs=>.pi vs fun n_5 vs=>.popS vs fun a n_6 c vs=>.unNil vs (.cI 38 #[.agg #[n,n_1,n_2,n_3,n_4,n_5,.slice a n_6 c,land,item],day] fun n=>.rt (.bool (decide (n>=0))))) (fun vs=>.pi vs fun n vs=>.pi vs fun n vs=>.pi vs fun n vs=>.pi vs fun n vs=>.pi vs fun n vs=>.pi vs fun n vs=>.pi vs fun n vs=>.popS vs fun a n c vs=>.unNil vs (.rt (.bool false))) fun x x_6=>.fail
theorem w2069(x_0 x_1 x_2 x_3 x_4 x_5:Int)(x_6p:Option Addr)(x_6n x_6c:Nat)(land item day:Int)(eventsp:Option Addr)(eventsn eventsc:Nat):FX X 45 #[.agg #[x_0,x_1,x_2,x_3,x_4,x_5,.slice x_6p x_6n x_6c],land,item,day,.slice eventsp eventsn eventsc] h A (n2069 x_0 x_1 x_2 x_3 x_4 x_5 x_6p x_6n x_6c land item day eventsp eventsn eventsc):=fk [5,11,13] [⟨0,[(19,.int .i64),(49152,.int .i64),(49153,.int .i64),(49154,.int .i64),(49155,.int .i64),(49156,.int .i64),(49157,.int .i64),(49158,.slice)],[5],[],[],[]⟩] [] Tryz.f45
def n2073(z0 z1 z2 z3 z4 z5 z6 z7:Addr):T:=.sem false (Instr.buildSlice 31 0 #[]) fun v=>.unS v fun a n c=>.loadS z0 fun p n_1 c_1=>.loop [.slice a n c,.int .i64 0] (fun vs=>.popS vs fun a n c vs=>.pi vs fun n_2 vs=>.unNil vs (bif decide (n_2<(↑n_1:Int)) then .need (0<=n_2/\n_2<(↑n_1:Int)) (.someA p fun a_1=>.li (a_1.add (n_2.toNat*1)) fun n_3=>.li z1 fun n_4=>.need (0<=n_2) (bif wrap .i64 (↑(BitVec.toNat (BitVec.ofInt 64 (Int.fdiv n_4 (2^min (n_2.toNat) 64)) &&& BitVec.ofInt 64 1)):Int)==1 then .sem false (Instr.buildSlice 31 1 #[(0,.int .i64 n_3)]) fun v=>.unS v fun a_2 n_5 c_2=>.sem false (Builtin.append_ #[31,31] 31 #[.slice a n c,.slice a_2 n_5 c_2]) fun v=>.unS v fun a n c=>.ag [.slice a n c,.int .i64 (wrap .i64 (n_2+1))] else .ag [.slice a n c,.int .i64 (wrap .i64 (n_2+1))])) else .bk [.slice a n c,n_2])) (fun vs=>.popS vs fun a n c vs=>.pi vs fun n_2 vs=>.unNil vs (.li (z2.add 0) fun n_3=>.li (z2.add 1) fun n_4=>.li (z2.add 2) fun n_5=>.li (z2.add 3) fun n_6=>.li (z2.add 4) fun n_7=>.li (z2.add 5) fun n_8=>.loadS (z2.add 6) fun p n_9 c_2=>.li z3 fun n_10=>.li z4 fun n_11=>.li z5 fun n_12=>.cB 45 #[.agg #[n_3,n_4,n_5,n_6,n_7,n_8,.slice p n_9 c_2],n_10,n_11,n_12,.slice a n c] fun b=>bif b then .loadC z6 fun p=>.comm false #[{ chan:=.chan p,send:=some (.slice a n c),zero:=.tuple #[] }] CommShape.send fun v=>.loadC z7 fun p=>.comm true #[{ chan:=.chan p,send:=some (.bool true),zero:=.tuple #[] }] CommShape.send fun v=>.rt (.tuple #[]) else .loadC z7 fun p=>.comm true #[{ chan:=.chan p,send:=some (.bool true),zero:=.tuple #[] }] CommShape.send fun v=>.rt (.tuple #[]))) (fun vs=>.popS vs fun a n c vs=>.pi vs fun n vs=>.unNil vs (.rt (.tuple #[]))) fun x x_1=>.fail
theorem w2073(z0 z1 z2 z3 z4 z5 z6 z7:Addr)(hX:XOK X)(hw:(n2073 z0 z1 z2 z3 z4 z5 z6 z7).wp X Tryz.prog (retQ A) h):FWK X Tryz.prog .deferred 44 #[.pointer (some z0),.pointer (some z1),.pointer (some z2),.pointer (some z3),.pointer (some z4),.pointer (some z5),.pointer (some z6),.pointer (some z7)] h A:=fwk_neat (show ftree ({ P:=Tryz.prog,priv:=[],loops:=[{ id:=0,slots:=[(8,.slice),(14,.int .i64)],ro:=[],outs:=[] }],joins:=[],kd:=.deferred }) Tryz.f44 [.pointer (some z0),.pointer (some z1),.pointer (some z2),.pointer (some z3),.pointer (some z4),.pointer (some z5),.pointer (some z6),.pointer (some z7)]=n2073 z0 z1 z2 z3 z4 z5 z6 z7 by kernel_rfl) (by simp) (by kernel_rfl) (by kernel_rfl) hX hw
def n2074(ap:Option Addr)(an ac:Nat)(bp:Option Addr)(bn bc:Nat):T:=bif (↑an:Int) != (↑bn:Int) then .rt (.int .i64 (wrap .i64 ((↑an:Int)-(↑bn:Int)))) else .cI 62 #[.slice ap an ac,.slice bp bn bc] fun n=>.rt (.int .i64 n)
theorem w2074(ap:Option Addr)(an ac:Nat)(bp:Option Addr)(bn bc:Nat):FX X 46 #[.slice ap an ac,.slice bp bn bc] h A (n2074 ap an ac bp bn bc):=fk [] [] [] Tryz.f46
def n2079(x_0 x_1 x_2 x_3 x_4 x_5:Int)(x_6p:Option Addr)(x_6n x_6c:Nat)(land:Int):T:=.cI 69 #[.agg #[x_0,x_1,x_2,x_3,x_4,x_5,.slice x_6p x_6n x_6c]] fun n=>bif n != 0 then .rt (.int .i64 n) else .cB 56 #[land,.int .i64 0,.int .i64 (wrap .i64 (x_1-1))] fun b=>bif !b then .rt (.int .i64 6) else .rt (.int .i64 0)
theorem w2079(x_0 x_1 x_2 x_3 x_4 x_5:Int)(x_6p:Option Addr)(x_6n x_6c:Nat)(land:Int):FX X 52 #[.agg #[x_0,x_1,x_2,x_3,x_4,x_5,.slice x_6p x_6n x_6c],land] h A (n2079 x_0 x_1 x_2 x_3 x_4 x_5 x_6p x_6n x_6c land):=fk [2] [] [] Tryz.f52
def n2080(seq:Value):T:=.cl 72 #[seq] fun v=>.unS v fun a n c=>.cl 73 #[.slice a n c] fun v=>.unTup v fun l=>.unNil l (.rt (.slice a n c))
theorem w2080(seq:Value):FX X 57 #[seq] h A (n2080 seq):=fk [] [] [] Tryz.f57
def n2081(m:Option Nat):T:=.new 88 #[.map m] fun r=>.rt (.func (Fn.func 74) #[] #[.pointer (some ⟨r,0,none⟩)])
theorem w2081(m:Option Nat):FX X 58 #[.map m] h A (n2081 m):=fk [] [] [] Tryz.f58
def n2082(m_0 m_1 m_2 m_3 m_4 m_5:Int)(m_6p:Option Addr)(m_6n m_6c:Nat)(m_7 m_8:Int):T:=.cl 59 #[.agg #[m_0,m_1,m_2,m_3,m_4,m_5,.slice m_6p m_6n m_6c,m_7,m_8]] fun v=>.unS v fun a n c=>.loop [.int .i64 0,.slice none 0 0] (fun vs=>.pi vs fun n_1 vs=>.popS vs fun a_1 n_2 c vs=>.unNil vs (bif decide (n_1<(↑n:Int)) then .need (0<=n_1/\n_1<(↑n:Int)) (.someA a fun a=>.li ((a.add (n_1.toNat*12)).add 0) fun n=>.li ((a.add (n_1.toNat*12)).add 1) fun n_3=>.li ((a.add (n_1.toNat*12)).add 2) fun n_4=>.li ((a.add (n_1.toNat*12)).add 3) fun n_5=>.li ((a.add (n_1.toNat*12)).add 4) fun n_6=>.li ((a.add (n_1.toNat*12)).add 5) fun n_7=>.loadS ((a.add (n_1.toNat*12)).add 6) fun p n_8 c_1=>.li ((a.add (n_1.toNat*12)).add 7) fun n_9=>.li ((a.add (n_1.toNat*12)).add 8) fun n_10=>.li ((a.add (n_1.toNat*12)).add 9) fun n_11=>.li ((a.add (n_1.toNat*12)).add 10) fun n_12=>.loadB ((a.add (n_1.toNat*12)).add 11) fun b=>.sem false (Instr.buildSlice 112 1 #[(0,.iface 91 (.agg #[n,n_3,n_4,n_5,n_6,n_7,.slice p n_8 c_1,n_9,n_10,n_11,n_12,b]))]) fun v=>.unS v fun a n c_2=>.sem false (Builtin.append_ #[112,112] 112 #[.slice a_1 n_2 c,.slice a n c_2]) fun v=>.unS v fun a n c=>.ag [.int .i64 (wrap .i64 (n_1+1)),.slice a n c]) else .bk [n_1,.slice a_1 n_2 c])) (fun vs=>.pi vs fun n vs=>.popS vs fun a n c vs=>.unNil vs (.cl 55 #[.agg #[m_0,m_1,m_2,m_3,m_4,m_5,.slice m_6p m_6n m_6c,m_7,m_8],.int .i64 5] fun v=>.each v [.slice a n c] (fun xs vs=>.unCons xs fun v vs_1=>.unAgg v fun l=>.pi l fun n vs_2=>.pi vs_2 fun n vs_3=>.pi vs_3 fun n_1 vs_4=>.popS vs_4 fun a n_2 c vs_5=>.pi vs_5 fun n_3 vs_6=>.unNil vs_6 (.unNil vs_1 (.popS vs fun a n_4 c vs=>.unNil vs (.cT 41 #[.agg #[m_0,m_1,m_2,m_3,m_4,m_5,.slice m_6p m_6n m_6c,m_7,m_8],n] fun v vs=>.unAgg v fun l=>.pi l fun n_5 vs_7=>.pi vs_7 fun n_6 vs_8=>.pi vs_8 fun n_7 vs_9=>.pi vs_9 fun n_8 vs_10=>.pi vs_10 fun n_9 vs_11=>.pi vs_11 fun n_10 vs_12=>.popS vs_12 fun a_1 n_11 c_1 vs_13=>.pi vs_13 fun n_12 vs_14=>.pi vs_14 fun n_13 vs_15=>.pi vs_15 fun n_14 vs_16=>.pi vs_16 fun n_15 vs_17=>.popB vs_17 fun b vs_18=>.unNil vs_18 (.unCons vs fun v vs=>.unB v fun b_1=>.unNil vs (bif b_1 then .cI 70 #[.agg #[m_0,m_1,m_2,m_3,m_4,m_5,.slice m_6p m_6n m_6c,m_7,m_8],n] fun n_16=>.nds [.pp 6 1,n,.pp 6 1,.val (.agg #[n_5,n_6,n_7,n_8,n_9,n_10,.slice a_1 n_11 c_1,n_12,n_13,n_14,n_15,b]),.S a n_4 c] (.sem false (Instr.buildSlice 112 1 #[(0,.iface 147 (.agg #[n_5,n_6,n_7,n_8,n_9,n_10,.slice a_1 n_11 c_1,n_12,n_13,n_14,n_15,b,n,n_16]))]) fun v=>.unS v fun a_2 n_17 c_2=>.nds [.val (.agg #[n_5,n_6,n_7,n_8,n_9,n_10,.slice a_1 n_11 c_1,n_12,n_13,n_14,n_15,b,n,n_16]),.pp 6 1,n,.pp 6 1,.val (.agg #[n_5,n_6,n_7,n_8,n_9,n_10,.slice a_1 n_11 c_1,n_12,n_13,n_14,n_15,b]),.S a n_4 c] (.sem false (Builtin.append_ #[112,112] 112 #[.slice a n_4 c,.slice a_2 n_17 c_2]) fun v=>.unS v fun a n_18 c=>.nds [.val (.agg #[n_5,n_6,n_7,n_8,n_9,n_10,.slice a_1 n_11 c_1,n_12,n_13,n_14,n_15,b,n,n_16]),.pp 6 1,n,.pp 6 1,.val (.agg #[n_5,n_6,n_7,n_8,n_9,n_10,.slice a_1 n_11 c_1,n_12,n_13,n_14,n_15,b])] (.ag [.slice a n_18 c]))) else .ag [.slice a n_4 c])))))) (fun vs=>.popS vs fun a n c vs=>.unNil vs (.rt (.slice a n c))) (fun vs=>.popS vs fun a n c vs=>.unNil vs (.rt (.slice a n c))) (fun vs=>.popS vs fun a n c vs=>.unNil vs (.rt (.slice none 0 0))) fun x x_1=>.fail)) (fun vs=>.pi vs fun n vs=>.popS vs fun a n c vs=>.unNil vs (.rt (.slice none 0 0))) fun x x_1=>.fail
theorem w2082(m_0 m_1 m_2 m_3 m_4 m_5:Int)(m_6p:Option Addr)(m_6n m_6c:Nat)(m_7 m_8:Int):FX X 54 #[.agg #[m_0,m_1,m_2,m_3,m_4,m_5,.slice m_6p m_6n m_6c,m_7,m_8]] h A (n2082 m_0 m_1 m_2 m_3 m_4 m_5 m_6p m_6n m_6c m_7 m_8):=fk [1,3,5,6,7] [⟨0,[(12,.int .i64),(16384,.slice)],[1],[],[],[]⟩,{ id:=2,slots:=[(16384,.slice)],ro:=[1],outs:=[],ps:=[.agg [.int .i64,.int .i64,.int .i64,.slice,.int .i64]] }] [] Tryz.f54
def n2083(m_0 m_1 m_2 m_3 m_4 m_5:Int)(m_6p:Option Addr)(m_6n m_6c:Nat)(m_7 m_8 k:Int):T:=.new 86 #[m_0,m_1,m_2,m_3,m_4,m_5,.slice m_6p m_6n m_6c,m_7,m_8] fun r=>.new 47 #[k] fun r_1=>.rt (.func (Fn.func 71) #[] #[.pointer (some ⟨r,0,none⟩),.pointer (some ⟨r_1,0,none⟩)])
theorem w2083(m_0 m_1 m_2 m_3 m_4 m_5:Int)(m_6p:Option Addr)(m_6n m_6c:Nat)(m_7 m_8 k:Int):FX X 55 #[.agg #[m_0,m_1,m_2,m_3,m_4,m_5,.slice m_6p m_6n m_6c,m_7,m_8],k] h A (n2083 m_0 m_1 m_2 m_3 m_4 m_5 m_6p m_6n m_6c m_7 m_8 k):=fk [] [] [] Tryz.f55
def n2084(m_0 m_1 m_2 m_3 m_4 m_5:Int)(m_6p:Option Addr)(m_6n m_6c:Nat)(m_7 m_8:Int):T:=.cl 55 #[.agg #[m_0,m_1,m_2,m_3,m_4,m_5,.slice m_6p m_6n m_6c,m_7,m_8],.int .i64 0] fun v=>.each v [.slice none 0 0] (fun xs vs=>.unCons xs fun v vs_1=>.unAgg v fun l=>.pi l fun n vs_2=>.pi vs_2 fun n vs_3=>.pi vs_3 fun n_1 vs_4=>.popS vs_4 fun a n_2 c vs_5=>.pi vs_5 fun n_3 vs_6=>.unNil vs_6 (.unNil vs_1 (.popS vs fun a n_4 c vs=>.unNil vs (.cI 75 #[.agg #[m_0,m_1,m_2,m_3,m_4,m_5,.slice m_6p m_6n m_6c,m_7,m_8],.int .i64 0] fun n_5=>.nds [n,.pp 4 1] (bif decide (n_5<=n) then .ag [.slice a n_4 c] else .cI 75 #[.agg #[m_0,m_1,m_2,m_3,m_4,m_5,.slice m_6p m_6n m_6c,m_7,m_8],n] fun n_6=>.nds [n,.pp 4 1,.val (.agg #[m_0,m_1,m_2,m_3,m_4,m_5,.slice m_6p m_6n m_6c,m_7,m_8]),.pp 4 1] (.cI 70 #[.agg #[m_0,m_1,m_2,m_3,m_4,m_5,.slice m_6p m_6n m_6c,m_7,m_8],n] fun n_7=>.nds [.pp 4 1,.pp 4 1,.pp 4 1] (.sem false (Instr.buildSlice 124 1 #[(0,.agg #[m_0,m_1,m_2,m_3,m_4,m_5,.slice m_6p m_6n m_6c,m_7,m_8,n,.int .i64 (if n_7<n_6 then n_7 else n_6),.bool (decide (n_6<n_7))])]) fun v=>.unS v fun a_1 n c_1=>.sem false (Builtin.append_ #[124,124] 124 #[.slice a n_4 c,.slice a_1 n c_1]) fun v=>.unS v fun a n c=>.ag [.slice a n c]))))))) (fun vs=>.popS vs fun a n c vs=>.unNil vs (.rt (.slice a n c))) (fun vs=>.popS vs fun a n c vs=>.unNil vs (.rt (.slice a n c))) (fun vs=>.popS vs fun a n c vs=>.unNil vs (.rt (.slice none 0 0))) fun x x_1=>.fail
theorem w2084(m_0 m_1 m_2 m_3 m_4 m_5:Int)(m_6p:Option Addr)(m_6n m_6c:Nat)(m_7 m_8:Int):FX X 59 #[.agg #[m_0,m_1,m_2,m_3,m_4,m_5,.slice m_6p m_6n m_6c,m_7,m_8]] h A (n2084 m_0 m_1 m_2 m_3 m_4 m_5 m_6p m_6n m_6c m_7 m_8):=fk [1,3,4] [{ id:=0,slots:=[(16384,.slice)],ro:=[1],outs:=[],ps:=[.agg [.int .i64,.int .i64,.int .i64,.slice,.int .i64]] }] [] Tryz.f59
def n2085(a_0 a_1 a_2 a_3 a_4 a_5:Int)(a_6p:Option Addr)(a_6n a_6c:Nat)(a_7 a_8 a_9 a_10:Int)(a_11:Bool)(day:Int):T:=.new 91 #[a_0,a_1,a_2,a_3,a_4,a_5,.slice a_6p a_6n a_6c,a_7,a_8,a_9,a_10,a_11] fun r=>.new 3 #[day] fun r_1=>.li ((Addr.add ⟨r,0,none⟩ 0).add 0) fun n=>.li ((Addr.add ⟨r,0,none⟩ 0).add 1) fun n_1=>.li ((Addr.add ⟨r,0,none⟩ 0).add 2) fun n_2=>.li ((Addr.add ⟨r,0,none⟩ 0).add 3) fun n_3=>.li ((Addr.add ⟨r,0,none⟩ 0).add 4) fun n_4=>.li ((Addr.add ⟨r,0,none⟩ 0).add 5) fun n_5=>.loadS ((Addr.add ⟨r,0,none⟩ 0).add 6) fun p n_6 c=>.li ((Addr.add ⟨r,0,none⟩ 0).add 7) fun n_7=>.li ((Addr.add ⟨r,0,none⟩ 0).add 8) fun n_8=>.cl 55 #[.agg #[n,n_1,n_2,n_3,n_4,n_5,.slice p n_6 c,n_7,n_8],.int .i64 1] fun v=>.each v [false] (fun xs vs=>.unCons xs fun v vs_1=>.unAgg v fun l=>.pi l fun n vs_2=>.pi vs_2 fun n vs_3=>.pi vs_3 fun n_9 vs_4=>.popS vs_4 fun a n_10 c vs_5=>.pi vs_5 fun n_11 vs_6=>.unNil vs_6 (.unNil vs_1 (.popB vs fun b vs=>.unNil vs (.li (Addr.add ⟨r,0,none⟩ 9) fun n_12=>.li ⟨r_1,0,none⟩ fun n_13=>.li (Addr.add ⟨r,0,none⟩ 9) fun n_14=>.li (((Addr.add ⟨r,0,none⟩ 0).add 0).add 4) fun n_15=>.cB 56 #[n,n_12,.int .i64 (if wrap .i64 (n_14+n_15)<n_13 then wrap .i64 (n_14+n_15) else n_13)] fun b_1=>bif b_1 then .callv false (.func (Fn.func 76) #[] #[.pointer (some ⟨r,0,none⟩),.pointer (some ⟨r_1,0,none⟩)]) #[n] fun v=>.unB v fun b_2=>bif !b_2 then .rn [true] else .ag [b] else .ag [b])))) (fun vs=>.popB vs fun b vs=>.unNil vs (.rt (.bool false))) (fun vs=>.popB vs fun b vs=>.unNil vs (.rt (.bool false))) (fun vs=>.popB vs fun b vs=>.unNil vs (.rt (.bool b))) fun x x_1=>.fail
theorem w2085(a_0 a_1 a_2 a_3 a_4 a_5:Int)(a_6p:Option Addr)(a_6n a_6c:Nat)(a_7 a_8 a_9 a_10:Int)(a_11:Bool)(day:Int):FX X 60 #[.agg #[a_0,a_1,a_2,a_3,a_4,a_5,.slice a_6p a_6n a_6c,a_7,a_8,a_9,a_10,a_11],day] h A (n2085 a_0 a_1 a_2 a_3 a_4 a_5 a_6p a_6n a_6c a_7 a_8 a_9 a_10 a_11 day):=fk [4,5,6] [{ id:=0,slots:=[(20480,.bool)],ro:=[5],outs:=[],ps:=[.agg [.int .i64,.int .i64,.int .i64,.slice,.int .i64]] }] [] Tryz.f60
def n2091(seq:Value):T:=.cl 92 #[.slice none 0 0,seq] fun v=>.unS v fun a n c=>.rt (.slice a n c)
theorem w2091(seq:Value):FX X 72 #[seq] h A (n2091 seq):=fk [] [] [] Tryz.f72
def n2093(yield:Value)(z0:Addr):T:=.loadM z0 fun p=>.sem false (Instr.range 88 (.map p)) fun v=>.unP v fun a=>.loop [] (fun vs=>.unNil vs (.sem false (Instr.next (.pointer a) false 0) fun v=>.unTup v fun l=>.unCons l fun b l=>.unB b fun b=>bif b then .unCons l fun v vs=>.unCons vs fun v vs=>.unNil vs (.sem false (Instr.entry (.pointer a)) fun v=>.unTup v fun l=>.unCons l fun v vs=>.unCons vs fun v_1 vs=>.unNil vs (.ui v fun n=>.callv false yield #[n] fun v=>.unB v fun b=>bif !b then .rn [] else .ag [])) else .unNil l (.bk []))) (fun vs=>.unNil vs (.rt (.tuple #[]))) (fun vs=>.unNil vs (.rt (.tuple #[]))) fun x x_1=>.fail
theorem w2093(yield:Value)(z0:Addr):FX X 74 #[yield,.pointer (some z0)] h A (n2093 yield z0):=fk [] [⟨0,[],[],[],[],[]⟩] [] Tryz.f74
def n2094(m_0 m_1 m_2 m_3 m_4 m_5:Int)(m_6p:Option Addr)(m_6n m_6c:Nat)(m_7 m_8 from0:Int):T:=.cl 55 #[.agg #[m_0,m_1,m_2,m_3,m_4,m_5,.slice m_6p m_6n m_6c,m_7,m_8],.int .i64 3] fun v=>.each v [.int .i64 10000] (fun xs vs=>.unCons xs fun v vs_1=>.unAgg v fun l=>.pi l fun n vs_2=>.pi vs_2 fun n vs_3=>.pi vs_3 fun n_1 vs_4=>.popS vs_4 fun a n_2 c vs_5=>.pi vs_5 fun n_3 vs_6=>.unNil vs_6 (.unNil vs_1 (.pi vs fun n_4 vs=>.unNil vs (bif decide (n>=from0) then .ag [.int .i64 (if n<n_4 then n else n_4)] else .ag [n_4])))) (fun vs=>.pi vs fun n vs=>.unNil vs (.rt (.int .i64 n))) (fun vs=>.pi vs fun n vs=>.unNil vs (.rt (.int .i64 n))) (fun vs=>.pi vs fun n vs=>.unNil vs (.rt (.int .i64 0))) fun x x_1=>.fail
theorem w2094(m_0 m_1 m_2 m_3 m_4 m_5:Int)(m_6p:Option Addr)(m_6n m_6c:Nat)(m_7 m_8 from0:Int):FX X 70 #[.agg #[m_0,m_1,m_2,m_3,m_4,m_5,.slice m_6p m_6n m_6c,m_7,m_8],from0] h A (n2094 m_0 m_1 m_2 m_3 m_4 m_5 m_6p m_6n m_6c m_7 m_8 from0):=fk [2,3,5,6] [{ id:=0,slots:=[(24576,.int .i64)],ro:=[2,3],outs:=[],ps:=[.agg [.int .i64,.int .i64,.int .i64,.slice,.int .i64]] }] [] Tryz.f70
def n2095(yield:Value)(z0 z1:Addr):T:=.loadS ((z0.add 0).add 6) fun p n c=>.loop [.int .i64 0] (fun vs=>.pi vs fun n_1 vs=>.unNil vs (bif decide (n_1<(↑n:Int)) then .need (0<=n_1/\n_1<(↑n:Int)) (.someA p fun a=>.li ((a.add (n_1.toNat*5)).add 0) fun n=>.li ((a.add (n_1.toNat*5)).add 1) fun n_2=>.li ((a.add (n_1.toNat*5)).add 2) fun n_3=>.loadS ((a.add (n_1.toNat*5)).add 3) fun p n_4 c=>.li ((a.add (n_1.toNat*5)).add 4) fun n_5=>.blk (.li z1 fun n=>.need (0<=n/\n<(↑7:Int)) (.loadB (((Addr.add { block:=0,off:=0 } (n.toNat*4)).add 1).add 0) fun b=>bif !b then .ag [true] else .li (z0.add 7) fun n=>.ag [.bool (n_3==n)])) (fun vs=>.popB vs fun b vs=>.unNil vs (.li z1 fun n_6=>bif n==n_6 then bif b then .li (z0.add 8) fun n_7=>.cB 61 #[.slice p n_4 c,n_7] fun b=>bif b then .callv false yield #[.agg #[n,n_2,n_3,.slice p n_4 c,n_5]] fun v=>.unB v fun b=>bif !b then .rn [n_1] else .ag [.int .i64 (wrap .i64 (n_1+1))] else .ag [.int .i64 (wrap .i64 (n_1+1))] else .ag [.int .i64 (wrap .i64 (n_1+1))] else .ag [.int .i64 (wrap .i64 (n_1+1))])) (fun vs=>.popB vs fun b vs=>.unNil vs (.rn [n_1])) fun x x_1=>.fail) else .bk [n_1])) (fun vs=>.pi vs fun n vs=>.unNil vs (.rt (.tuple #[]))) (fun vs=>.pi vs fun n vs=>.unNil vs (.rt (.tuple #[]))) fun x x_1=>.fail
theorem w2095(yield:Value)(z0 z1:Addr):FX X 71 #[yield,.pointer (some z0),.pointer (some z1)] h A (n2095 yield z0 z1):=fk [5] [⟨0,[(11,.int .i64)],[],[],[],[]⟩] [⟨4,[(6,.bool)],[5],[],[],[]⟩] Tryz.f71
def n2096(m_0 m_1 m_2 m_3 m_4 m_5:Int)(m_6p:Option Addr)(m_6n m_6c:Nat)(m_7 m_8 from0:Int):T:=.cl 55 #[.agg #[m_0,m_1,m_2,m_3,m_4,m_5,.slice m_6p m_6n m_6c,m_7,m_8],.int .i64 4] fun v=>.each v [.int .i64 10000] (fun xs vs=>.unCons xs fun v vs_1=>.unAgg v fun l=>.pi l fun n vs_2=>.pi vs_2 fun n vs_3=>.pi vs_3 fun n_1 vs_4=>.popS vs_4 fun a n_2 c vs_5=>.pi vs_5 fun n_3 vs_6=>.unNil vs_6 (.unNil vs_1 (.pi vs fun n_4 vs=>.unNil vs (bif decide (n_3<=wrap .i64 (m_2+m_3)) then bif decide (n>=from0) then .ag [.int .i64 (if n<n_4 then n else n_4)] else .ag [n_4] else .ag [n_4])))) (fun vs=>.pi vs fun n vs=>.unNil vs (.rt (.int .i64 n))) (fun vs=>.pi vs fun n vs=>.unNil vs (.rt (.int .i64 n))) (fun vs=>.pi vs fun n vs=>.unNil vs (.rt (.int .i64 0))) fun x x_1=>.fail
theorem w2096(m_0 m_1 m_2 m_3 m_4 m_5:Int)(m_6p:Option Addr)(m_6n m_6c:Nat)(m_7 m_8 from0:Int):FX X 75 #[.agg #[m_0,m_1,m_2,m_3,m_4,m_5,.slice m_6p m_6n m_6c,m_7,m_8],from0] h A (n2096 m_0 m_1 m_2 m_3 m_4 m_5 m_6p m_6n m_6c m_7 m_8 from0):=fk [2,3,5,6] [{ id:=0,slots:=[(24576,.int .i64)],ro:=[2,3],outs:=[],ps:=[.agg [.int .i64,.int .i64,.int .i64,.slice,.int .i64]] }] [] Tryz.f75
def n2097(from0:Int)(z0 z1:Addr):T:=.li ((z0.add 0).add 0) fun n=>.li ((z0.add 0).add 1) fun n_1=>.li ((z0.add 0).add 2) fun n_2=>.li ((z0.add 0).add 3) fun n_3=>.li ((z0.add 0).add 4) fun n_4=>.li ((z0.add 0).add 5) fun n_5=>.loadS ((z0.add 0).add 6) fun p n_6 c=>.li ((z0.add 0).add 7) fun n_7=>.li ((z0.add 0).add 8) fun n_8=>.cl 55 #[.agg #[n,n_1,n_2,n_3,n_4,n_5,.slice p n_6 c,n_7,n_8],.int .i64 2] fun v=>.each v [false] (fun xs vs=>.unCons xs fun v vs_1=>.unAgg v fun l=>.pi l fun n vs_2=>.pi vs_2 fun n vs_3=>.pi vs_3 fun n_9 vs_4=>.popS vs_4 fun a n_10 c vs_5=>.pi vs_5 fun n_11 vs_6=>.unNil vs_6 (.unNil vs_1 (.popB vs fun b vs=>.unNil vs (.li z1 fun n_12=>.cB 56 #[n,from0,n_12] fun b_1=>bif b_1 then .rn [true] else .ag [b])))) (fun vs=>.popB vs fun b vs=>.unNil vs (.rt (.bool false))) (fun vs=>.popB vs fun b vs=>.unNil vs (.rt (.bool false))) (fun vs=>.popB vs fun b vs=>.unNil vs (.rt (.bool b))) fun x x_1=>.fail
theorem w2097(from0:Int)(z0 z1:Addr):FX X 76 #[from0,.pointer (some z0),.pointer (some z1)] h A (n2097 from0 z0 z1):=fk [3,4,5] [{ id:=0,slots:=[(20480,.bool)],ro:=[3],outs:=[],ps:=[.agg [.int .i64,.int .i64,.int .i64,.slice,.int .i64]] }] [] Tryz.f76
def n2100(sp:Option Addr)(sn sc:Nat)(seq:Value):T:=.each seq [.slice sp sn sc] (fun xs vs=>.unCons xs fun v vs_1=>.ui v fun n=>.unNil vs_1 (.popS vs fun a n_1 c vs=>.unNil vs (.sem false (Instr.buildSlice 31 1 #[(0,.int .i64 n)]) fun v=>.unS v fun a_1 n c_1=>.sem false (Builtin.append_ #[31,31] 31 #[.slice a n_1 c,.slice a_1 n c_1]) fun v=>.unS v fun a n c=>.ag [.slice a n c]))) (fun vs=>.popS vs fun a n c vs=>.unNil vs (.rt (.slice a n c))) (fun vs=>.popS vs fun a n c vs=>.unNil vs (.rt (.slice a n c))) (fun vs=>.popS vs fun a n c vs=>.unNil vs (.rt (.slice none 0 0))) fun x x_1=>.fail
theorem w2100(sp:Option Addr)(sn sc:Nat)(seq:Value):FX X 92 #[.slice sp sn sc,seq] h A (n2100 sp sn sc seq):=fk [2] [{ id:=0,slots:=[(12288,.slice)],ro:=[],outs:=[],ps:=[.cell (.int .i64)] }] [] Tryz.f92
def n2137(a_0 a_1 a_2 a_3 a_4 a_5:Int)(a_6p:Option Addr)(a_6n a_6c:Nat)(a_7 a_8 a_9 a_10:Int)(a_11:Bool)(day:Int):T:=.cB 56 #[day,a_9,.int .i64 (wrap .i64 (a_10-1))] fun b=>.nds [a_10,.pp 2 10,.pp 2 9,a_9,.pp 2 9] (bif b then .cB 60 #[.agg #[a_0,a_1,a_2,a_3,a_4,a_5,.slice a_6p a_6n a_6c,a_7,a_8,a_9,a_10,a_11],day] fun b=>.nds [a_10,.pp 2 10,.pp 2 9,a_9,.pp 2 9,.B (!b),.B (!b),a_10,.pp 2 10,.pp 2 9] (.rt (.tuple #[a_9,.bool !b])) else .nds [a_10,.pp 2 10,.pp 2 9,a_9,.pp 2 9] (.both (.nds [a_10,.pp 2 10,.pp 2 9,a_9,.pp 2 9,false,a_10,.pp 2 10,.pp 2 9] (.rt (.tuple #[a_9,false]))) (.nds [a_10,.pp 2 10,.pp 2 9,a_10,.pp 2 10,.pp 2 9] (.rt (.tuple #[a_9,false])))))
theorem w2137(a_0 a_1 a_2 a_3 a_4 a_5:Int)(a_6p:Option Addr)(a_6n a_6c:Nat)(a_7 a_8 a_9 a_10:Int)(a_11:Bool)(day:Int):FX X 169 #[.agg #[a_0,a_1,a_2,a_3,a_4,a_5,.slice a_6p a_6n a_6c,a_7,a_8,a_9,a_10,a_11],day] h A (n2137 a_0 a_1 a_2 a_3 a_4 a_5 a_6p a_6n a_6c a_7 a_8 a_9 a_10 a_11 day):=fk [2] [] [] Tryz.f169
def n2138(t_0 t_1 t_2 t_3 t_4 t_5:Int)(t_6p:Option Addr)(t_6n t_6c:Nat)(t_7 t_8 t_9 t_10:Int)(t_11:Bool)(t_12 t_13 day:Int):T:=.cB 56 #[day,t_12,.int .i64 (wrap .i64 (t_13-1))] fun b=>.nds [t_13,.pp 2 13,.pp 2 12,t_9,.pp 2 9,.pp 2 0,t_13,.pp 2 13,.pp 2 12] (.rt (.tuple #[t_9,b]))
theorem w2138(t_0 t_1 t_2 t_3 t_4 t_5:Int)(t_6p:Option Addr)(t_6n t_6c:Nat)(t_7 t_8 t_9 t_10:Int)(t_11:Bool)(t_12 t_13 day:Int):FX X 171 #[.agg #[t_0,t_1,t_2,t_3,t_4,t_5,.slice t_6p t_6n t_6c,t_7,t_8,t_9,t_10,t_11,t_12,t_13],day] h A (n2138 t_0 t_1 t_2 t_3 t_4 t_5 t_6p t_6n t_6c t_7 t_8 t_9 t_10 t_11 t_12 t_13 day):=fk [2] [] [] Tryz.f171
def n2140  : T:=.rt (.bool true)
theorem w2140  : FX X 173 #[] h A (n2140):=fk [] [] [] Tryz.f173
def n2141  : T:=.rt (.bool false)
theorem w2141  : FX X 174 #[] h A (n2141):=fk [] [] [] Tryz.f174
end
section
set_option maxHeartbeats 0
set_option linter.unusedVariables false
set_option maxRecDepth 100000
variable {X:XP} {h:LH} {A:Value->LH->Prop}
def n2020(ap:Option Addr)(an ac:Nat)(bp:Option Addr)(bn bc:Nat):T:=bif (↑an:Int) != (↑bn:Int) then .rt (.bool false) else .loop [false,.int .i64 0] (fun vs=>.popB vs fun b vs=>.pi vs fun n vs=>.unNil vs (bif decide (n<(↑an:Int)) then .need (0<=n/\n<(↑an:Int)) (.someA ap fun a=>.loadB (a.add (n.toNat*1)) fun b_1=>.need (0<=n/\n<(↑bn:Int)) (.someA bp fun a=>.loadB (a.add (n.toNat*1)) fun b_2=>bif !b_1==b_2 then .rn [false,n] else .ag [b,.int .i64 (wrap .i64 (n+1))])) else .bk [b,n])) (fun vs=>.popB vs fun b vs=>.pi vs fun n vs=>.unNil vs (.rt (.bool true))) (fun vs=>.popB vs fun b vs=>.pi vs fun n vs=>.unNil vs (.rt (.bool b))) fun x x_1=>.fail
theorem w2020(ap:Option Addr)(an ac:Nat)(bp:Option Addr)(bn bc:Nat):FX X 22 #[.slice ap an ac,.slice bp bn bc] h A (n2020 ap an ac bp bn bc):=fk [] [⟨0,[(4,.bool),(5,.int .i64)],[],[],[],[]⟩] [] Tryz.f22
def n2022(x_0 x_1 x_2 x_3 x_4 x_5:Int)(x_6p:Option Addr)(x_6n x_6c:Nat):T:=.blk (.cB 29 #[x_0,.int .i64 0,.int .i64 5] fun b=>bif !b then .rn [.int .i64 1] else .cB 29 #[x_1,.int .i64 1,.int .i64 3] fun b=>bif !b then .rn [.int .i64 1] else .cB 30 #[x_2] fun b=>bif !b then .rn [.int .i64 1] else .cB 30 #[x_3] fun b=>bif !b then .rn [.int .i64 1] else .cB 30 #[x_4] fun b=>bif !b then .rn [.int .i64 1] else .cB 30 #[x_5] fun b=>bif !b then .rn [.int .i64 1] else .ag [.int .i64 0]) (fun vs=>.pi vs fun n vs=>.unNil vs (bif decide ((↑x_6n:Int)>10) then .rt (.int .i64 2) else .loop [n,.int .i64 0] (fun vs=>.pi vs fun n vs=>.pi vs fun n_1 vs=>.unNil vs (bif decide (n_1<(↑x_6n:Int)) then .need (0<=n_1/\n_1<(↑x_6n:Int)) (.someA x_6p fun a=>.li ((a.add (n_1.toNat*5)).add 0) fun n_2=>.li ((a.add (n_1.toNat*5)).add 1) fun n_3=>.li ((a.add (n_1.toNat*5)).add 2) fun n_4=>.loadS ((a.add (n_1.toNat*5)).add 3) fun p n_5 c=>.li ((a.add (n_1.toNat*5)).add 4) fun n_6=>.cI 31 #[.agg #[x_0,x_1,x_2,x_3,x_4,x_5,.slice x_6p x_6n x_6c],.agg #[n_2,n_3,n_4,.slice p n_5 c,n_6]] fun n_7=>.need (0<=n_1/\n_1<(↑x_6n:Int)) (.someA x_6p fun a_1=>.ne (.pointer (some (a_1.add (n_1.toNat*5)))) (.pointer (some (a.add (n_1.toNat*5)))) (.nds [n_1,.S x_6p x_6n x_6c,.pp 1 6] (bif n_7 != 0 then .rn [n_7,n_1] else .ag [n,.int .i64 (wrap .i64 (n_1+1))])))) else .bk [n,n_1])) (fun vs=>.pi vs fun n vs=>.pi vs fun n vs=>.unNil vs (.rt (.int .i64 0))) (fun vs=>.pi vs fun n vs=>.pi vs fun n_1 vs=>.unNil vs (.rt (.int .i64 n))) fun x x_6=>.fail)) (fun vs=>.pi vs fun n vs=>.unNil vs (.rt (.int .i64 n))) fun x x_6=>.fail
theorem w2022(x_0 x_1 x_2 x_3 x_4 x_5:Int)(x_6p:Option Addr)(x_6n x_6c:Nat):FX X 12 #[.agg #[x_0,x_1,x_2,x_3,x_4,x_5,.slice x_6p x_6n x_6c]] h A (n2022 x_0 x_1 x_2 x_3 x_4 x_5 x_6p x_6n x_6c):=fk [1] [⟨0,[(2,.int .i64),(3,.int .i64)],[1],[],[],[]⟩] [⟨3,[(2,.int .i64)],[1],[],[],[]⟩] Tryz.f12
def n2025(ap:Option Addr)(an ac:Nat)(bp:Option Addr)(bn bc:Nat):T:=bif (↑an:Int) != (↑bn:Int) then .rt (.bool false) else .loop [false,.int .i64 0] (fun vs=>.popB vs fun b vs=>.pi vs fun n vs=>.unNil vs (bif decide (n<(↑an:Int)) then .need (0<=n/\n<(↑an:Int)) (.someA ap fun a=>.li ((a.add (n.toNat*2)).add 0) fun n_1=>.li ((a.add (n.toNat*2)).add 1) fun n_2=>.need (0<=n/\n<(↑bn:Int)) (.someA bp fun a_1=>.li ((a_1.add (n.toNat*2)).add 0) fun n_3=>.li ((a_1.add (n.toNat*2)).add 1) fun n_4=>.sem false (Sem.bind (eqGuard BinOp.neq 33 (Operand.tmp 20) (Operand.tmp 24) (.agg #[n_1,n_2]) (.agg #[n_3,n_4])) fun __r=>binOp BinOp.neq 33 (.agg #[n_1,n_2]) (.agg #[n_3,n_4])) fun v=>.unB v fun b_1=>.need (0<=n/\n<(↑bn:Int)) (.someA bp fun a_2=>.ne (.pointer (some (a_2.add (n.toNat*2)))) (.pointer (some (a_1.add (n.toNat*2)))) (.nds [n,.S bp bn bc] (.need (0<=n/\n<(↑an:Int)) (.someA ap fun a_3=>.ne (.pointer (some (a_3.add (n.toNat*2)))) (.pointer (some (a.add (n.toNat*2)))) (.nds [n,.S ap an ac] (bif b_1 then .rn [false,n] else .ag [b,.int .i64 (wrap .i64 (n+1))])))))))) else .bk [b,n])) (fun vs=>.popB vs fun b vs=>.pi vs fun n vs=>.unNil vs (.rt (.bool true))) (fun vs=>.popB vs fun b vs=>.pi vs fun n vs=>.unNil vs (.rt (.bool b))) fun x x_1=>.fail
theorem w2025(ap:Option Addr)(an ac:Nat)(bp:Option Addr)(bn bc:Nat):FX X 24 #[.slice ap an ac,.slice bp bn bc] h A (n2025 ap an ac bp bn bc):=fk [] [⟨0,[(4,.bool),(5,.int .i64)],[],[],[],[]⟩] [] Tryz.f24
def n2056(n:Int):T:=.cB 29 #[n,.int .i64 0,.int .i64 9999] fun b=>.rt (.bool b)
theorem w2056(n:Int):FX X 30 #[n] h A (n2056 n):=fk [] [] [] Tryz.f30
def n2057(x_0 x_1 x_2 x_3 x_4 x_5:Int)(x_6p:Option Addr)(x_6n x_6c:Nat)(e_0 e_1 e_2:Int)(e_3p:Option Addr)(e_3n e_3c:Nat)(e_4:Int):T:=.blk (bif decide (e_0<0) then .rn [.int .i64 1] else bif decide (e_0>6) then .rn [.int .i64 1] else .cB 30 #[e_1] fun b=>bif !b then .rn [.int .i64 1] else .cB 30 #[e_4] fun b=>bif !b then .rn [.int .i64 1] else .ag [.int .i64 0]) (fun vs=>.pi vs fun n vs=>.unNil vs (.cB 29 #[e_2,.int .i64 0,.int .i64 (wrap .i64 (x_1-1))] fun b=>bif !b then .rt (.int .i64 6) else .loop [n,.int .i64 0] (fun vs=>.pi vs fun n vs=>.pi vs fun n_1 vs=>.unNil vs (bif decide (n_1<(↑e_3n:Int)) then .need (0<=n_1/\n_1<(↑e_3n:Int)) (.someA e_3p fun a=>.li (a.add (n_1.toNat*1)) fun n_2=>.cB 29 #[n_2,.int .i64 0,.int .i64 (wrap .i64 (x_0-1))] fun b=>.nds [x_0,.pp 2 0] (.need (0<=n_1/\n_1<(↑e_3n:Int)) (.someA e_3p fun a_1=>.ne (.pointer (some (a_1.add (n_1.toNat*1)))) (.pointer (some (a.add (n_1.toNat*1)))) (.nds [n_1,.S e_3p e_3n e_3c,.pp 3 3] (bif !b then .rn [.int .i64 6,n_1] else bif decide (n_1>0) then .need (0<=n_1/\n_1<(↑e_3n:Int)) (.someA e_3p fun a=>.li (a.add (n_1.toNat*1)) fun n_3=>.need (0<=wrap .i64 (n_1-1)/\wrap .i64 (n_1-1)<(↑e_3n:Int)) (.someA e_3p fun a=>.li (a.add ((wrap .i64 (n_1-1)).toNat*1)) fun n_4=>bif decide (n_3<=n_4) then .rn [.int .i64 7,n_1] else .ag [n,.int .i64 (wrap .i64 (n_1+1))])) else .nds [.U,.U,.U,.U,.U,.U,.U,.B (decide (n_1>0)),n_1,.U,.U,.U,.U,.U,.U,.U,.B (decide (n_1>0)),n_1] (.ag [n,.int .i64 (wrap .i64 (n_1+1))])))))) else .bk [n,n_1])) (fun vs=>.pi vs fun n vs=>.pi vs fun n vs=>.unNil vs (bif e_0==4 then bif e_2 != 0 then .rt (.int .i64 1) else bif e_0 != 4 then bif e_0 != 6 then bif e_4 != 0 then .rt (.int .i64 1) else bif decide (e_4>e_1) then .rt (.int .i64 7) else .rt (.int .i64 0) else bif decide (e_4>e_1) then .rt (.int .i64 7) else .rt (.int .i64 0) else bif decide (e_4>e_1) then .rt (.int .i64 7) else .rt (.int .i64 0) else bif e_0 != 4 then bif e_0 != 6 then bif e_4 != 0 then .rt (.int .i64 1) else bif decide (e_4>e_1) then .rt (.int .i64 7) else .rt (.int .i64 0) else bif decide (e_4>e_1) then .rt (.int .i64 7) else .rt (.int .i64 0) else bif decide (e_4>e_1) then .rt (.int .i64 7) else .rt (.int .i64 0))) (fun vs=>.pi vs fun n vs=>.pi vs fun n_1 vs=>.unNil vs (.rt (.int .i64 n))) fun x x_6=>.fail)) (fun vs=>.pi vs fun n vs=>.unNil vs (.rt (.int .i64 n))) fun x x_6=>.fail
theorem w2057(x_0 x_1 x_2 x_3 x_4 x_5:Int)(x_6p:Option Addr)(x_6n x_6c:Nat)(e_0 e_1 e_2:Int)(e_3p:Option Addr)(e_3n e_3c:Nat)(e_4:Int):FX X 31 #[.agg #[x_0,x_1,x_2,x_3,x_4,x_5,.slice x_6p x_6n x_6c],.agg #[e_0,e_1,e_2,.slice e_3p e_3n e_3c,e_4]] h A (n2057 x_0 x_1 x_2 x_3 x_4 x_5 x_6p x_6n x_6c e_0 e_1 e_2 e_3p e_3n e_3c e_4):=fk [2,3] [⟨0,[(4,.int .i64),(5,.int .i64)],[2,3],[],[],[]⟩] [⟨3,[(4,.int .i64)],[2,3],[],[],[]⟩] Tryz.f31
end
end Go.Y
namespace Go.Y.Tre
section
open Go.TM.Tr
attribute [local irreducible] T.wp CV FWK
theorem c2052{h:LH}(n a b:Int):Pu Tryz.prog 56 #[n,a,b] h (.bool (inB n a b)):=by
 refine w2052 _ _ _ X0_ok ?_;unfold n2052;refine t_if (fun e=>?_) (fun e=>?_)<;>refine t_ret ⟨?_,rfl⟩<;>simp[inB,e]
theorem c2053{h:LH}(n:Int):Pu Tryz.prog 53 #[n] h (.bool (dayB n)):=by
 refine w2053 _ X0_ok ?_;unfold n2053;refine t_pu (c2052 _ _ _) ?_;refine gZ ?_;exact t_ret ⟨rfl,rfl⟩
theorem c2140{h:LH}:Pu Tryz.prog 173 #[] h (.bool true):=by
 refine w2140 X0_ok ?_;unfold n2140;exact t_ret ⟨rfl,rfl⟩
theorem c2141{h:LH}:Pu Tryz.prog 174 #[] h (.bool false):=by
 refine w2141 X0_ok ?_;unfold n2141;exact t_ret ⟨rfl,rfl⟩
theorem c49{h:LH}(n a b:Int):Pu Tryz.prog 29 #[n,a,b] h (.bool (inB n a b)):=by
 refine w49 _ _ _ X0_ok ?_;unfold n49;refine t_if (fun e=>?_) (fun e=>?_)<;>refine t_ret ⟨?_,rfl⟩<;>simp[inB,e]
theorem c2056{h:LH}(n:Int):Pu Tryz.prog 30 #[n] h (.bool (dayB n)):=by
 refine w2056 _ X0_ok ?_;unfold n2056;refine t_pu (c49 _ _ _) ?_;refine gZ ?_;exact t_ret ⟨rfl,rfl⟩
theorem pu_gr{f:FuncId}{args:Array Value}{h:LH}{v:Value}(c:Pu Tryz.prog f args h v):Gr Tryz.prog f args h fun r _=>r=v :=
 FW.mono c (by rintro _ _ ⟨rfl,rfl⟩;exact⟨LH.le_refl _,rfl⟩)
def indexF(x:Int):Nat->List Int->Int
 | _,[]=>-1
 | i,y::l=>if x==y then i else indexF x (i+1) l
theorem indexF_ge(x:Int):∀ (l:List Int) (i:Nat),decide (indexF x i l>=0)=l.contains x:=by
 intro l
 induction l with
 | nil=>intro i;rfl
 | cons y l ih =>
  intro i;rw[indexF,List.contains_cons];split
  ·rename_i h;rw[h];simp
  ·rename_i h;have h':(x==y)=false:=by simpa using h
   rw[ih,h',Bool.false_or]
theorem c106{h:LH}{p:Option Addr}{n c:Nat}{l:List Int}(hl:Sl IntE 1 h.get p n l)(x:Int):Pu Tryz.prog 77 #[.slice p n c,x] h (.int .i64 (indexF x 0 l)):=by
 refine w106 _ _ _ _ X0_ok ?_;unfold n106;have hn:=hl.1;have hb:=hl.2.1;refine t_loop (fun m vs h'=>h'=h/\∃ i:Nat,vs=[.int .i64 0,.int .i64 i]/\i<=n/\m=n-i/\indexF x 0 l=indexF x i (l.drop i)) ⟨rfl,0,rfl,Nat.zero_le _,rfl,rfl⟩ ?_;rintro Y m vs _ hY ⟨rfl,i,rfl,hi,rfl,hc⟩;refine yJ (fun e1=>?_) (fun e1=>?_)
 ·obtain⟨y,a,hx,ha,e2⟩:=hl.at (i:=i) (by omega);unfold IntE at e2;refine gZ ?_;rw[drop_of hx,indexF]at hc;refine t_cond (fun e3=>?_) (fun e3=>?_)
  ·refine gZ ?_;refine t_ret ⟨?_,rfl⟩;rw[hc,if_pos e3]
  ·refine t_again (hY (n-(i+1)) _ _ (by omega) ⟨rfl,i+1,?_,by omega,rfl,?_⟩)
   ·rw[wrap_id (by omega) (by omega)];rfl
   ·rw[hc,if_neg (by simp[e3])]
 ·refine gZ ?_;refine t_ret ⟨?_,rfl⟩;rw[hc,List.drop_eq_nil_of_le (by omega)];rfl
theorem c100{h:LH}{p:Option Addr}{n c:Nat}{l:List Int}(hl:Sl IntE 1 h.get p n l)(x:Int):Pu Tryz.prog 61 #[.slice p n c,x] h (.bool (l.contains x)):=by
 refine w100 _ _ _ _ X0_ok ?_;unfold n100;refine t_pu (c106 hl x) ?_;refine gZ ?_;refine t_ret ⟨?_,rfl⟩;rw[indexF_ge]
theorem c35{h:LH}{p q:Option Addr}{n c m d:Nat}{a b:List Int}(ha:Sl IntE 1 h.get p n a)(hb:Sl IntE 1 h.get q m b):Pu Tryz.prog 23 #[.slice p n c,.slice q m d] h (.bool (decide (a=b))):=by
 refine w35 _ _ _ _ _ _ X0_ok ?_;unfold n35;have hn:=ha.1;have hm:=hb.1;have hbn:=ha.2.1;have hbm:=hb.2.1;refine t_cond (fun e=>?_) (fun e=>?_)
 ·have:a≠b:=by rintro rfl;simp at e;omega
  exact t_ret ⟨by simp[this],rfl⟩
 have hnm:n=m:=by simp at e;omega
 refine t_loop (fun mm vs h'=>h=h'/\∃ i:Nat,vs=[.bool false,.int .i64 i]/\i<=n/\mm=n-i/\a.take i=b.take i) ⟨rfl,0,rfl,Nat.zero_le _,rfl,rfl⟩ ?_;rintro Y mm vs _ hY ⟨rfl,i,rfl,hi,rfl,hc⟩;refine yJ (fun e=>?_) (fun e=>?_)
 ·obtain⟨x,a1,hx,ha1,e1⟩:=ha.at (i:=i) (by omega);obtain⟨y,a2,hy,ha2,e2⟩:=hb.at (i:=i) (by omega);unfold IntE at e1 e2;refine yI (fun b1=>?_) (fun b1=>?_)
  ·refine gZ ?_;have:a≠b:=by rintro rfl;rw[hx]at hy;cases hy;simp at b1
   exact t_ret ⟨by simp[this],rfl⟩
  ·have b2:x=y:=by simpa using b1
   refine t_again (hY (n-(i+1)) _ _ (by omega) ⟨rfl,i+1,?_,by omega,rfl,?_⟩)
   ·rw[wrap_id (by omega) (by omega)];rfl
   ·rw[List.take_add_one,List.take_add_one,hc,hx,hy,b2]
 ·refine gZ ?_;rw[List.take_of_length_le (by omega),List.take_of_length_le (by omega)]at hc;exact t_ret ⟨by simp[hc],rfl⟩
theorem c109{h:LH}(x:Int):Pu Tryz.prog 95 #[x] h (.bool false):=by
 refine w109 _ X0_ok ?_;unfold n109;refine t_ret ⟨?_,rfl⟩;simp
theorem c105{h:LH}(x y:Int):Pu Tryz.prog 78 #[x,y] h (.int .i64 (cmpI x y)):=by
 refine w105 _ _ X0_ok ?_;unfold n105;refine t_pu (c109 _) ?_;refine gZ ?_;refine t_pu (c109 _) ?_;refine yF ?_;refine yF ?_;refine t_if (fun e=>?_) (fun e=>?_)
 ·refine t_ret ⟨?_,rfl⟩;rw[cmpI,if_pos e]
 ·refine t_if (fun e'=>?_) (fun e'=>?_)<;>refine t_ret ⟨?_,rfl⟩<;>simp[cmpI,e,e']
theorem c97{h:LH}{p q:Option Addr}{n c m d:Nat}{a b:List Int}(ha:Sl IntE 1 h.get p n a)(hb:Sl IntE 1 h.get q m b):Pu Tryz.prog 62 #[.slice p n c,.slice q m d] h (.int .i64 (cmpL a b)):=by
 refine w97 _ _ _ _ _ _ X0_ok ?_;unfold n97;have hn:=ha.1;have hm:=hb.1;have hbn:=ha.2.1;have hbm:=hb.2.1;refine t_loop (fun mm vs h'=>h=h'/\∃ i:Nat,vs=[.int .i64 0,.int .i64 i]/\i<=n/\i<=m/\mm=n-i/\cmpL a b=cmpL (a.drop i) (b.drop i)) ⟨rfl,0,rfl,Nat.zero_le _,Nat.zero_le _,rfl,rfl⟩ ?_;rintro Y mm vs _ hY ⟨rfl,i,rfl,hi,hi',rfl,hc⟩;refine yJ (fun e1=>?_) (fun e1=>?_)
 ·obtain⟨x,a1,hx,ha1,e2⟩:=ha.at (i:=i) (by omega);unfold IntE at e2;rw[drop_of hx]at hc;refine yJ (fun e3=>?_) (fun e3=>?_)
  ·refine gZ ?_;rw[List.drop_eq_nil_of_le (show b.length<=i by omega),cmpL]at hc;exact t_ret ⟨by rw[hc],rfl⟩
  ·obtain⟨y,b1,hy,hb1,e4⟩:=hb.at (i:=i) (by omega);unfold IntE at e4;rw[drop_of hy,cmpL]at hc;refine gZ ?_;refine t_pu (c105 _ _) ?_;refine yI (fun e5=>?_) (fun e5=>?_)
   ·refine gZ ?_;rw[if_pos (by simpa using e5)]at hc;exact t_ret ⟨by rw[hc],rfl⟩
   ·rw[if_neg (by simpa using e5)]at hc;refine t_again (hY (n-(i+1)) _ _ (by omega) ⟨rfl,i+1,?_,by omega,by omega,rfl,hc⟩);rw[wrap_id (by omega) (by omega)];rfl
 ·refine gZ ?_;rw[List.drop_eq_nil_of_le (show a.length<=i by omega)]at hc;refine t_if (fun e3=>?_) (fun e3=>?_)
  ·obtain⟨y,hy⟩ : ∃ y,b[i]?=some y:=⟨b[i]'(by omega),List.getElem?_eq_getElem (by omega)⟩
   rw[drop_of hy,cmpL]at hc;exact t_ret ⟨by rw[hc],rfl⟩
  ·rw[List.drop_eq_nil_of_le (show b.length<=i by omega),cmpL]at hc;exact t_ret ⟨by rw[hc],rfl⟩
theorem c2074{h:LH}{p q:Option Addr}{n c m d:Nat}{a b:List Int}(ha:Sl IntE 1 h.get p n a)(hb:Sl IntE 1 h.get q m b):Pu Tryz.prog 46 #[.slice p n c,.slice q m d] h (.int .i64 (fewerF a b)):=by
 refine w2074 _ _ _ _ _ _ X0_ok ?_;unfold n2074;have hn:=ha.1;have hm:=hb.1;have hbn:=ha.2.1;have hbm:=hb.2.1;refine t_cond (fun e=>?_) (fun e=>?_)
 ·have e':a.length≠b.length:=by simp at e;omega
  rw[wrap_id (by omega) (by omega)];refine t_ret ⟨?_,rfl⟩;rw[fewerF,if_pos e',hn,hm]
 ·have e':¬ a.length≠b.length:=by simp at e;omega
  refine t_pu (c97 ha hb) ?_;refine gZ ?_;refine t_ret ⟨?_,rfl⟩;rw[fewerF,if_neg e']
end
section
open Go.TM.Tr
attribute [local irreducible] T.wp CV FWK
def landK(k:Nat):Bool:=!(Nat.beq k 4)
def sinceK(k:Nat):Bool:=Nat.beq k 4||Nat.beq k 6
def givesK(k:Nat):Bool:=Nat.beq k 0||(Nat.beq k 2||Nat.beq k 5)
structure Kinds(h:Cells):Prop where
 land:∀ k,k<7->h.cell? ⟨0,k*4+1,none⟩=some (.bool (landK k))
 since:∀ k,k<7->h.cell? ⟨0,k*4+2,none⟩=some (.bool (sinceK k))
 gives:∀ k,k<7->h.cell? ⟨0,k*4+3,none⟩=some (.func (.func (if givesK k then 173 else 174)) #[] #[])
 b0:h.cell? ⟨2,0,none⟩=some (.bool true)
 b1:h.cell? ⟨2,1,none⟩=some (.bool false)
theorem Kinds.rd{h h':Cells}(hl:Rd h h')(k:Kinds h):Kinds h':=⟨fun i hi=>hl _ _ (k.land i hi),fun i hi=>hl _ _ (k.since i hi),fun i hi=>hl _ _ (k.gives i hi),hl _ _ k.b0,hl _ _ k.b1⟩
theorem Kinds.le{h h':Cells}(hl:h.le h')(k:Kinds h):Kinds h':=k.rd (Rd.of_le hl)
theorem kind_nat{k:Int}(h:inB k 0 6=true):∃ n:Nat,k=n/\n<7:=by
 unfold inB at h;simp at h;exact⟨k.toNat,by omega,by omega⟩
theorem land_int{n:Nat}(hn:n<7):landK n=decide ((n:Int)≠4):=by
 match n,hn with
 | 0,_|1,_|2,_|3,_|4,_|5,_|6,_=>decide
theorem since_int{n:Nat}(hn:n<7):sinceK n=decide ((n:Int)=4\/(n:Int)=6):=by
 match n,hn with
 | 0,_|1,_|2,_|3,_|4,_|5,_|6,_=>decide
theorem Kinds.landAt{h:Cells}(k:Kinds h){n:Nat}(hn:n<7):h.cell? (((Addr.add ⟨0,0,none⟩ ((n:Int).toNat*4)).add 1).add 0)=some (.bool (landK n)):=by
 rw[add_plain,add_plain,add_plain];simpa using k.land n hn
theorem Kinds.landAt'{h:Cells}(k:Kinds h){n:Nat}(hn:n<7):h.cell? ((((Addr.add ⟨0,0,none⟩ ((n:Int).toNat*4)).add 1).add 0).add 0)=some (.bool (landK n)):=by
 rw[add_plain,add_plain,add_plain,add_plain];simpa using k.land n hn
theorem Kinds.sinceAt{h:Cells}(k:Kinds h){n:Nat}(hn:n<7):h.cell? (((Addr.add ⟨0,0,none⟩ ((n:Int).toNat*4)).add 1).add 1)=some (.bool (sinceK n)):=by
 rw[add_plain,add_plain,add_plain];have:=k.since n hn;rw[show n*4+2=0+(n:Int).toNat*4+1+1 by simp]at this;exact this
theorem Kinds.givesAt{h:Cells}(k:Kinds h){n:Nat}(hn:n<7):h.cell? ((Addr.add ⟨0,0,none⟩ ((n:Int).toNat*4)).add 3)=some (.func (.func (if givesK n then 173 else 174)) #[] #[]):=by
 rw[add_plain,add_plain];simpa using k.gives n hn
theorem Kinds.bound0{h:Cells}(k:Kinds h):h.cell? (Addr.add ⟨2,0,none⟩ 0)=some (.bool true):=by rw[add_plain];exact k.b0
theorem Kinds.bound1{h:Cells}(k:Kinds h):h.cell? (Addr.add ⟨2,0,none⟩ 1)=some (.bool false):=by rw[add_plain];exact k.b1
theorem itemsT_run{l:List Int}{b:Int}{i:Nat}{x:Int}{y:Int}(hx:l[i]?=some x)(hy:0<i->l[i-1]?=some y):Tr.stepT l b i x=if inB x 0 (b-1)=false then 6 else if 0<i/\x<=y then 7 else 0:=by
 unfold Tr.stepT;by_cases h0:0<i
 ·simp[List.getD,hy h0]
 ·simp[h0]
theorem c2054{h:LH}(hk:Kinds h.get){f:TC}{x:TF}{e:Ev}{q:Option Addr}{m c:Nat}(hl:IsI (x.lands-1))(hi:IsI (x.items-1))(hs:Sl IntE 1 h.get q m e.items) :
  Pu Tryz.prog 91 #[treatyV f x,.agg #[.int .i64 e.kind,.int .i64 e.day,.int .i64 e.land,.slice q m c,.int .i64 e.since]] h (.int .i64 (eventT x e)):=by
 refine w2054 _ _ _ _ _ _ _ _ _ _ _ _ _ _ _ _ X0_ok ?_;unfold n2054;have hm:=hs.1;have hb:=hs.2.1;refine t_blk (fun vs h'=>vs=[.bool (!(inB e.kind 0 6&&(dayB e.day&&dayB e.since)))]/\h=h') ?_ ?_
 ·refine t_blk (fun vs h'=>vs=[.bool (!(inB e.kind 0 6))]/\h=h') ?_ ?_
  ·refine t_pu (c2052 _ _ _) ?_;refine gZ ?_;exact t_again ⟨rfl,rfl⟩
  ·rintro vs _ ⟨rfl,rfl⟩;refine yI (fun b=>?_) (fun b=>?_)
   ·have:inB e.kind 0 6=false:=by simpa using b
    exact t_again ⟨by rw[this];rfl,rfl⟩
   ·have b':inB e.kind 0 6=true:=by simpa using b
    refine t_blk (fun vs h'=>vs=[.bool (!(dayB e.day))]/\h=h') ?_ ?_
    ·refine t_pu (c2053 _) ?_;refine gZ ?_;exact t_again ⟨rfl,rfl⟩
    ·rintro vs _ ⟨rfl,rfl⟩;refine yI (fun d=>?_) (fun d=>?_)
     ·have:dayB e.day=false:=by simpa using d
      exact t_again ⟨by rw[this,b'];rfl,rfl⟩
     ·have d':dayB e.day=true:=by simpa using d
      refine t_pu (c2053 _) ?_;refine gZ ?_;exact t_again ⟨by rw[b',d'];rfl,rfl⟩
 rintro vs _ ⟨rfl,rfl⟩;refine yI (fun b=>?_) (fun b=>?_)
 ·refine t_ret ⟨?_,rfl⟩;rw[eventT,if_pos (by simpa only [Bool.not_eq_true'] using b)]
 have b':(inB e.kind 0 6&&(dayB e.day&&dayB e.since))=true:=by simpa using b
 have hev1:eventT x e=if inB e.land 0 (x.lands-1)=false then 6 else if itemsT e.items x.items≠0 then itemsT e.items x.items else if (e.kind=4/\e.land≠0)\/(e.kind≠4/\e.kind≠6/\e.since≠0) then 1 else if e.since>e.day then 7 else 0:=by
  rw[eventT,if_neg (by rw[b'];simp)]
 rw[wrap_id hl.1 hl.2];refine t_pu (c2052 _ _ _) ?_;refine yI (fun d=>?_) (fun d=>?_)
 ·refine t_ret ⟨?_,rfl⟩;rw[hev1,if_pos (by simpa using d)]
 have hev2:eventT x e=if itemsT e.items x.items≠0 then itemsT e.items x.items else if (e.kind=4/\e.land≠0)\/(e.kind≠4/\e.kind≠6/\e.since≠0) then 1 else if e.since>e.day then 7 else 0:=by
  rw[hev1,if_neg (by simp at d;simp[d])]
 have hkind:inB e.kind 0 6=true:=by simp at b';exact b'.1
 obtain⟨kn,hkn,hk7⟩:=kind_nat hkind;refine t_loop (fun mm vs h'=>h=h'/\∃ i:Nat,vs=[.int .i64 0,.int .i64 i]/\i<=m/\mm=m-i/\itemsT e.items x.items=firstT (Tr.stepT e.items x.items) i (e.items.drop i)) ⟨rfl,0,rfl,Nat.zero_le _,rfl,rfl⟩ ?_;rintro Y mm vs _ hY ⟨rfl,i,rfl,hi',rfl,hc⟩;refine yJ (fun e1=>?_) (fun e1=>?_)
 ·obtain⟨y,a,hy,ha,e2⟩:=hs.at (i:=i) (by omega);unfold IntE at e2;rw[drop_of hy,firstT]at hc;refine gZ ?_;rw[wrap_id hi.1 hi.2];refine t_pu (c2052 _ _ _) ?_;refine gZ ?_;have next:Tr.stepT e.items x.items i y=0->Y [.int .i64 0,.int .i64 (wrap .i64 ((i:Int)+1))] h:=by
   intro hz;rw[if_neg (by rw[hz];simp)]at hc;refine hY (m-(i+1)) _ _ (by omega) ⟨rfl,i+1,?_,by omega,rfl,hc⟩;rw[wrap_id (by omega) (by omega)];rfl
  have stop:∀ z:Int,z≠0->Tr.stepT e.items x.items i y=z->eventT x e=z:=by
   intro z hz hr;rw[hr,if_pos hz]at hc;rw[hev2,hc,if_pos hz]
  refine t_cond (fun d1=>?_) (fun d1=>?_)
  ·refine gZ ?_;refine t_ret ⟨?_,rfl⟩;rw[stop 6 (by decide) (by rw[Tr.stepT,if_pos (by simpa using d1)])]
  have d1':¬ inB y 0 (x.items-1)=false:=by simp at d1;simp[d1]
  refine t_if (fun d2=>?_) (fun d2=>?_)
  ·obtain⟨z,a2,hz,ha2,e3⟩:=hs.at (i:=i-1) (by omega);unfold IntE at e3;rw[ha]at ha2;cases ha2;have hwi:wrap .i64 ((i:Int)-1)=((i-1:Nat):Int):=by rw[wrap_id (by omega) (by omega)];omega
   have hrun:=itemsT_run (b:=x.items) hy (fun _=>hz);rw[hwi];refine yJ (fun d3=>?_) (fun d3=>?_)
   ·refine gZ ?_;refine t_ret ⟨?_,rfl⟩;rw[stop 7 (by decide) (by rw[hrun,if_neg d1',if_pos ⟨by omega,d3⟩])]
   ·exact t_again (next (by rw[hrun,if_neg d1',if_neg (by omega)]))
  ·exact t_again (next (by rw[Tr.stepT,if_neg d1',if_neg (by omega)]))
 ·refine gZ ?_;rw[List.drop_eq_nil_of_le (by omega),firstT]at hc;have hev3:eventT x e=if (e.kind=4/\e.land≠0)\/(e.kind≠4/\e.kind≠6/\e.since≠0) then 1 else if e.since>e.day then 7 else 0:=by
   rw[hev2,if_neg (by rw[hc];simp)]
  rw[hkn];have g1:=hk.landAt' hk7;have g2:=hk.landAt hk7;have g3:=hk.sinceAt hk7;have g4:=hk.bound0;have g5:=hk.bound1;have hland:=land_int hk7;have hsince:=since_int hk7;refine gZ ?_;refine t_blk (fun vs h'=>vs=[.bool (decide ((e.kind=4/\e.land≠0)\/(e.kind≠4/\e.kind≠6/\e.since≠0)))]/\h=h') ?_ ?_
  ·refine t_blk (fun vs h'=>vs=[.bool (decide (e.kind≠4/\e.kind≠6/\e.since≠0))]/\h=h') ?_ ?_
   ·refine gZ ?_;refine t_eqBB twoUses gUses ?_;refine yI (fun d3=>?_) (fun d3=>?_)
    ·refine t_again ⟨?_,rfl⟩;rw[hland,hsince]at d3;simp at d3;congr 2;rw[hkn];by_cases e0:e.since=0<;>simp[e0,d3]<;>omega
    ·refine t_again ⟨?_,rfl⟩;rw[hland,hsince]at d3;simp at d3;congr 2;rw[hkn];simp;omega
   ·rintro vs _ ⟨rfl,rfl⟩;refine yI (fun d3=>?_) (fun d3=>?_)
    ·refine t_again ⟨?_,rfl⟩;simp at d3;congr 2;simp[d3]
    ·simp at d3;refine t_cond (fun d4=>?_) (fun d4=>?_)
     ·rw[hland]at d4;simp at d4;refine t_again ⟨?_,rfl⟩;congr 2;rw[hkn,d4];simp;by_cases e0:e.land=0<;>simp[e0]
     ·rw[hland]at d4;simp at d4;refine t_again ⟨?_,rfl⟩;congr 2;simp;rw[hkn]at d3 ⊢;constructor
      ·omega
      ·intro _ h6;exact d3 (by omega) h6
  rintro vs _ ⟨rfl,rfl⟩;refine yI (fun d5=>?_) (fun d5=>?_)
  ·refine t_ret ⟨?_,rfl⟩;rw[hev3,if_pos (by simpa using d5)]
  ·rw[if_neg (by simpa using d5)]at hev3;refine t_if (fun d6=>?_) (fun d6=>?_)
   ·refine t_ret ⟨?_,rfl⟩;rw[hev3,if_pos d6]
   ·refine t_ret ⟨?_,rfl⟩;rw[hev3,if_neg d6]
end
end Go.Y.Tre
namespace Go.TM
section
section
variable {H:Type} {enc:TypeId×Value->H} {P:Program} {W:World} {base:Nat} {sp:Nat->Bool} {held:Bool} {fuel:Nat} {t:TypeId} {cs:List Value} {x:DataW H×List MemPlace}
structure TreatyTy(P:Program)(tI tIs tK tEv tEvs tFile:TypeId):Prop where
 int:P.underlying tI=some (.int .i64)
 int1:P.cellsOf tI=1
 kind:P.underlying tK=some (.int .i64)
 kind1:P.cellsOf tK=1
 bytes:0<P.bytesOf tI/\0<P.bytesOf tEv
 ints:P.underlying tIs=some (.slice tI)
 ints1:P.cellsOf tIs=1
 ev:FieldsAre P tEv [(tK,0),(tI,1),(tI,2),(tIs,3),(tI,4)]
 ev5:P.cellsOf tEv=5
 evs:P.underlying tEvs=some (.slice tEv)
 evs1:P.cellsOf tEvs=1
 file:FieldsAre P tFile [(tI,0),(tI,1),(tI,2),(tI,3),(tI,4),(tI,5),(tEvs,6)]
 file7:P.cellsOf tFile=7
variable {tI tIs tK tEv tEvs tFile:TypeId}
theorem t_ints(T:TreatyTy P tI tIs tK tEv tEvs tFile)(hz:Light P tIs x.1)(h:DataW.trod enc P W base sp held fuel tIs cs=some x) :
  ∃ p n c l,cs=[.slice p n c]/\n<=c/\Sl IntE 1 (getW W) p n l:=by
 refine sl_of_trodR T.ints T.int1 T.bytes.1 hz ?_ h;intro n a cs y _ hc hy _;obtain⟨z,rfl,_,_⟩:=DataW.trod_int T.int hy;exact⟨z,hc 0 _ rfl⟩
theorem ev_cells(T:TreatyTy P tI tIs tK tEv tEvs tFile)(hl:cs.length=5)(hz:Light P tEv x.1)(h:DataW.trod enc P W base sp held fuel tEv cs=some x) :
  ∃ q m c e,cs=[.int .i64 e.kind,.int .i64 e.day,.int .i64 e.land,.slice q m c,.int .i64 e.since]/\m<=c/\Sl IntE 1 (getW W) q m (Tr.Ev.items e):=by
 obtain⟨_,m,hf⟩:=field_of T.ev hz h
 match cs,hl with
 | [c0,c1,c2,c3,c4],_ =>
  obtain⟨y0,h0,zh0⟩:=hf 0 tK 0 rfl;obtain⟨y1,h1,zh1⟩:=hf 1 tI 1 rfl;obtain⟨y2,h2,zh2⟩:=hf 2 tI 2 rfl;obtain⟨y3,h3,zh3⟩:=hf 3 tIs 3 rfl;obtain⟨y4,h4,zh4⟩:=hf 4 tI 4 rfl;rw[T.kind1]at h0;rw[T.int1]at h1 h2 h4;rw[T.ints1]at h3;obtain⟨a0,e0,_,_⟩:=DataW.trod_int T.kind h0;obtain⟨a1,e1,_,_⟩:=DataW.trod_int T.int h1;obtain⟨a2,e2,_,_⟩:=DataW.trod_int T.int h2;obtain⟨p,k,c,l,e3,hk,s⟩:=t_ints T zh3 h3;obtain⟨a4,e4,_,_⟩:=DataW.trod_int T.int h4;simp at e0 e1 e2 e3 e4;subst e0;subst e1;subst e2;subst e3;subst e4;exact⟨p,k,c,⟨a0,a1,a2,l,a4⟩,rfl,hk,s⟩
theorem evs_of_trod(T:TreatyTy P tI tIs tK tEv tEvs tFile)(hz:Light P tEvs x.1)(h:DataW.trod enc P W base sp held fuel tEvs cs=some x) :
  ∃ p n c l,cs=[.slice p n c]/\n<=c/\Sl EventE 5 (getW W) p n l:=by
 refine sl_of_trodR T.evs T.ev5 T.bytes.2 hz ?_ h;intro n a cs y hl hc hy hz;obtain⟨q,m,c,e,rfl,hk,s⟩:=ev_cells T hl hz hy;exact⟨e,hc 0 _ rfl,hc 1 _ rfl,hc 2 _ rfl,⟨q,m,c,hc 3 _ rfl,hk,s⟩,hc 4 _ rfl⟩
theorem treaty_of_trod(T:TreatyTy P tI tIs tK tEv tEvs tFile)(hz:Light P tFile x.1)(h:DataW.trod enc P W base sp held fuel tFile cs=some x) :
  ∃ f y,cs=[.int .i64 (Tr.TF.items y),.int .i64 y.lands,.int .i64 y.start,.int .i64 y.depend,.int .i64 y.refuse,.int .i64 y.turn,.slice (TC.p f) f.n f.c]/\TreatyR (getW W) f y:=by
 obtain⟨hl,m,hf⟩:=field_of T.file hz h;rw[T.file7]at hl
 match cs,hl with
 | [c0,c1,c2,c3,c4,c5,c6],_ =>
  obtain⟨y0,h0,zh0⟩:=hf 0 tI 0 rfl;obtain⟨y1,h1,zh1⟩:=hf 1 tI 1 rfl;obtain⟨y2,h2,zh2⟩:=hf 2 tI 2 rfl;obtain⟨y3,h3,zh3⟩:=hf 3 tI 3 rfl;obtain⟨y4,h4,zh4⟩:=hf 4 tI 4 rfl;obtain⟨y5,h5,zh5⟩:=hf 5 tI 5 rfl;obtain⟨y6,h6,zh6⟩:=hf 6 tEvs 6 rfl;rw[T.int1]at h0 h1 h2 h3 h4 h5;rw[T.evs1]at h6;obtain⟨a0,e0,_,_⟩:=DataW.trod_int T.int h0;obtain⟨a1,e1,_,_⟩:=DataW.trod_int T.int h1;obtain⟨a2,e2,_,_⟩:=DataW.trod_int T.int h2;obtain⟨a3,e3,_,_⟩:=DataW.trod_int T.int h3;obtain⟨a4,e4,_,_⟩:=DataW.trod_int T.int h4;obtain⟨a5,e5,_,_⟩:=DataW.trod_int T.int h5;obtain⟨p,n,c,l,e6,hk,s⟩:=evs_of_trod T zh6 h6;simp at e0 e1 e2 e3 e4 e5 e6;subst e0;subst e1;subst e2;subst e3;subst e4;subst e5;subst e6;exact⟨⟨p,n,c⟩,⟨a0,a1,a2,a3,a4,a5,l⟩,rfl,hk,s⟩
theorem treaty_arg(T:TreatyTy P tI tIs tK tEv tEvs tFile){r:Reach}{b0:Nat}{v:Value}{d:DataW H}{ps:List MemPlace}
 (hv:Value.okWide P W r b0 tFile v)(hz:Light P tFile d)(h:DataW.Trod enc P W base sp held tFile v d ps):∃ f y,v=treatyV f y/\TreatyR (getW W) f y:=by
 obtain⟨fs,hu,_⟩:=T.file;obtain⟨cs,rfl,_⟩:=WideShapes.okWide_struct hu hv;obtain⟨fuel,hf⟩:=h;obtain⟨f,y,e,hr⟩:=treaty_of_trod T hz hf;exact⟨f,y,agg_of e,hr⟩
end
end
section
open Go.ChangeShapes Go.RowKit
theorem trodAll8{H:Type}{enc:TypeId×Value->H}{P:Program}{w:World}{base:Nat}{spare:Nat->Bool}{held:Bool}{t0 t1 t2 t3 t4 t5 t6 t7:TypeId}{args:Array Value}{ds:List (DataW H)}{ps:List MemPlace}(h:DataW.TrodAll enc P w base spare held [t0,t1,t2,t3,t4,t5,t6,t7] args.toList ds ps) :
  ∃ v0 v1 v2 v3 v4 v5 v6 v7 d0 d1 d2 d3 d4 d5 d6 d7 p0 p1 p2 p3 p4 p5 p6 p7,args=#[v0,v1,v2,v3,v4,v5,v6,v7]/\ds=[d0,d1,d2,d3,d4,d5,d6,d7]/\ps=p0++p1++p2++p3++p4++p5++p6++p7/\DataW.Trod enc P w base spare held t0 v0 d0 p0/\DataW.Trod enc P w base spare held t1 v1 d1 p1/\DataW.Trod enc P w base spare held t2 v2 d2 p2/\DataW.Trod enc P w base spare held t3 v3 d3 p3/\DataW.Trod enc P w base spare held t4 v4 d4 p4/\DataW.Trod enc P w base spare held t5 v5 d5 p5/\DataW.Trod enc P w base spare held t6 v6 d6 p6/\DataW.Trod enc P w base spare held t7 v7 d7 p7:=by
 obtain⟨v0,vs0,d0,ds0,p0,q0,hargs,rfl,rfl,hd0,hr0⟩:=trodAll_cons h;obtain⟨v1,vs1,d1,ds1,p1,q1,rfl,rfl,rfl,hd1,hr1⟩:=trodAll_cons hr0;obtain⟨v2,vs2,d2,ds2,p2,q2,rfl,rfl,rfl,hd2,hr2⟩:=trodAll_cons hr1;obtain⟨v3,vs3,d3,ds3,p3,q3,rfl,rfl,rfl,hd3,hr3⟩:=trodAll_cons hr2;obtain⟨v4,vs4,d4,ds4,p4,q4,rfl,rfl,rfl,hd4,hr4⟩:=trodAll_cons hr3;obtain⟨v5,vs5,d5,ds5,p5,q5,rfl,rfl,rfl,hd5,hr5⟩:=trodAll_cons hr4;obtain⟨v6,vs6,d6,ds6,p6,q6,rfl,rfl,rfl,hd6,hr6⟩:=trodAll_cons hr5;obtain⟨v7,vs7,d7,ds7,p7,q7,rfl,rfl,rfl,hd7,hr7⟩:=trodAll_cons hr6;obtain⟨rfl,rfl,rfl⟩:=trodAll_nil hr7;exact⟨v0,v1,v2,v3,v4,v5,v6,v7,d0,d1,d2,d3,d4,d5,d6,d7,p0,p1,p2,p3,p4,p5,p6,p7,by cases args;simp_all,rfl,by simp,hd0,hd1,hd2,hd3,hd4,hd5,hd6,hd7⟩
end
end Go.TM
