/- Contracts and laws for the proof, joined by a program. No condition. -/
import Derived.Test.YtfkfohpnpljihaaGreatDoorM2
set_option linter.all false
open Go.IntKind (wrap)
section
namespace Go.TM
open Go Go.Conc Go.ChangeShapes Go.RowKit
theorem trodAll_below {H:Type} {enc:TypeId × Value -> H} {P:Program} (hl:laidOutB P = true) {W W':World} (hb:Below W.heap.size W W'):∀ {ts:List TypeId} {vs:List Value} {ds:List (DataW H)} {ps:List MemPlace},
  (∀ t ∈ ts,P.readableRec t = true /\ t < P.types.size) -> DataW.TrodAll enc P W 0 (fun _ => true) true ts vs ds ps -> (∀ x ∈ ps,x.block < W.heap.size) ->
  DataW.TrodAll enc P W' 0 (fun b => decide (b < W.heap.size)) true ts vs ds ps
 | [],[],[],_,_,h,_ => h
 | t :: ts,v :: vs,d :: ds,_,hr,h,hlt => by
  obtain ⟨p,q,h1,h2,rfl⟩ := h
  exact ⟨p,q,Below.trod hl (hr t (by simp)).1 (hr t (by simp)).2 h1 hb (fun x hx => hlt x (by simp [hx])),trodAll_below hl hb (fun t' ht => hr t' (by simp [ht])) h2 (fun x hx => hlt x (by simp [hx])),rfl⟩
 | [],[],_ :: _,_,_,h,_ => h.elim
 | [],_ :: _,_,_,_,h,_ => by cases h
 | _ :: _,[],_,_,_,h,_ => by cases h
 | _ :: _,_ :: _,[],_,_,h,_ => h.elim
section
variable {H:Type} {enc:TypeId × Value -> H}
theorem row_leaving {C:Checked} {os:Os} {f:FuncId} {fn:Func} {s:ChangeSpec} {l:List (String × DataW Unit)} {tb:TypeId}
  (own:ownKnob C.prog.godebug = none) (started:os.Started) (hfn:C.prog.funcs[f]? = some fn) (hin:C.prog.inits.idxOf? f = none) (hv:s.vars = []) (lo:laidOutB C.prog = true)
  (hr:∀ t ∈ fn.params.toList,C.prog.readableRec t = true /\ t < C.prog.types.size) (hres:fn.resultTypes = #[tb]) (hb:C.prog.underlying tb = some .bool)
  (hs:∀ ds:List (DataW H),ds.length = fn.params.size -> s.fn H ds = { results := [.lit (.bool true)],args := ds })
  (witness:∃ (w:World) (tape:Tape) (i:Input),w.os = os /\ (w.forCall tape i).Shaped C.prog /\ i.vars = [] /\ Input.okWide C.prog (w.forCall tape i) .any w.heap.size f i /\
   ((s.pre enc C.prog fn [] false (w.forCall tape i).memory i.args /\ laidMetH C.prog l (w.forCall tape i).memory) /\ sizedMet enc C.prog fn (OpenSpec.ofChange s) false (w.forCall tape i).memory i.args) /\ ({}:Assume).holds C.prog (lone (Frame.enter C.prog f i.args .normal) [] (w.forCall tape i)))
  (runs:∀ (W:World) (base:Nat) (args:Array Value) (ds:List (DataW H)) (ps:List MemPlace),(∀ (j:Nat) t v,fn.params[j]? = some t -> args[j]? = some v -> Value.okWide C.prog W .any base t v) ->
   DataW.TrodAll enc C.prog W 0 (fun _ => true) true fn.params.toList args.toList ds ps -> (∀ (j:Nat) t d,fn.params.toList[j]? = some t -> ds[j]? = some d -> Light C.prog t d) -> laidMetH C.prog l W -> FWK XT C.prog .normal f args ⟨getW W,[],[],[]⟩ fun r h' => r = .bool true /\ h'.pend = []) :
  ReturnsInLeavingWide {} C os f .any (fun w args => (s.pre enc C.prog fn [] false w args /\ laidMetH C.prog l w) /\ sizedMet enc C.prog fn (OpenSpec.ofChange s) false w args) (s.post enc C.prog fn false true false false) := by
 refine returnsInLeavingWide_of_good own started witness ?_
 intro w tape i _ _ _ hok hpre _
 obtain ⟨_,_,_,fn',hfn',_,_,_,_,hval⟩ := hok
 have e:fn' = fn := Option.some.inj (hfn'.symm.trans hfn)
 subst e
 obtain ⟨⟨⟨ds,gs,before,hw,_⟩,hx⟩,hz⟩ := hpre
 have hz' := hz.weights hw
 have hw' := DataW.Whole.of_heap (w' := w.forCall tape i) (by rfl) hw
 have hx':laidMetH C.prog l (w.forCall tape i) := laidMetH.of_heap (by rfl) hx
 generalize w.forCall tape i = W at hval hw' hx' ⊢
 have hW' := hw'
 obtain ⟨p,q,hA,hV,rfl,_,_⟩ := hw'
 rw [hv] at hV
 obtain ⟨rfl,rfl⟩ := trodVars_none hV
 have hlight:∀ (j:Nat) t d,fn'.params.toList[j]? = some t -> ds[j]? = some d -> Light C.prog t d := by
  intro j t d ht hd n hn
  have hm := DataW.weights_mem_each (P := C.prog) (ts := fn'.params.toList ++ s.plain.varTypes C.prog) (ds := ds ++ []) (j := j) (by rw [List.getElem?_append_left (List.getElem?_eq_some_iff.1 ht).1]; exact ht) (by rw [List.append_nil]; exact hd) n hn
  have := List.all_eq_true.1 hz' n hm
  simpa using this
 have hlt:∀ x ∈ p,x.block < W.heap.size := fun x hx => by simpa using hW'.lt x (by simpa using hx)
 have hlen:ds.length = fn'.params.size := by
  have:∀ {ts:List TypeId} {vs:List Value} {ds:List (DataW H)} {ps:List MemPlace},DataW.TrodAll enc C.prog W 0 (fun _ => true) true ts vs ds ps -> ds.length = ts.length := by
   intro ts
   induction ts with
   | nil => intro vs ds ps h; cases vs <;> cases ds <;> first | rfl | exact h.elim
   | cons t ts ih =>
    intro vs ds ps h
    cases vs with
    | nil => exact h.elim
    | cons v vs =>
     cases ds with
     | nil => exact h.elim
     | cons d ds => obtain ⟨_,_,_,h2,_⟩ := h; simp [ih h2]
  simpa using this hA
 have hsf:s.fn H (ds ++ []) = { results := [.lit (.bool true)],args := ds } := by rw [List.append_nil]; exact hs ds hlen
 exact run_well (Φ := fun v w' => s.post enc C.prog fn' false true false false W.blind i.args v w'.blind) (getW_fits W) (getW_no W) hin (runs W _ i.args ds p hval hA hlight hx') (by
  rintro v h' ⟨rfl,hp⟩
  refine ⟨hp,fun w' _ hk => ChangeSpec.post_blind ⟨ds,[],_,[],p,[],hW',?_,?_,?_,hk.below.frame _,fun h => by cases h⟩⟩
  ·rw [hsf,hres]
   exact trodAll_mk1 (shut_bool hb true)
  ·rw [hsf]
   exact trodAll_below lo hk.below hr hA hlt
  ·rw [hsf,hv]; rfl)
end
theorem card_goes {p:Pinned} {s:OpenSpec} {c:OpenClaim} (kinds:List LaidKind) (tests:Bool) (har:Bool × String) (lk:Bool)
  (hc:c.holds p s) (hw:c.wfByText s = true) (htie:c.laidByTextAt .later p kinds tests)
  (hst:c.start = .entering) (hnb:c.noBlocks = false /\ c.again = false) (hm:p.checked.prog.mainIs = some (har.1,har.2.toList)) (hn:(!har.1 && har.2.isEmpty && !lk) = false)
  (hl:∀ f fn,p.checked.prog.funcNamed c.func = some f -> p.checked.prog.funcs[f]? = some fn -> lk = p.checked.prog.looks [] /\ ∀ (j:Nat) t,fn.params[j]? = some t -> p.checked.prog.wantsStandIn t = false)
  (hg:true = c.goesBy p.checked.prog) :
  Claim7.holds p (.plain s) { stood := { row := c,standIns := [],harness := har,looks := lk },kinds := [],alts := [],goes := true,laidByText := true,laidKinds := kinds,laidTests := tests,laidLooks := .later } := by
 have h6:∀ r:OpenClaim,Claim7.isSixth { stood := { row := r,standIns := [],harness := har,looks := lk },kinds := [] } = false := fun r => by simpa [Claim7.isSixth] using hn
 refine ⟨?_,(fun D hD => by cases hD),htie,(fun h => by cases h),hg⟩
 exact Claim7.tied_new_at .later kinds tests (Claim7.new_of_sixth hc har lk hst hnb hm (h6 c) hl) hw
end Go.TM
end
section
namespace Go.TM
open Go Go.Conc
variable {P:Program} {E:Halt -> Cells -> Prop} {h:Cells}
theorem lwp_newRow {Q:Addr -> Cells -> Prop} {el:TypeId} {cells:Array Value} (hq:∀ r,h r = none -> Q ⟨r,0,none⟩ (h.upd r (true,.cells cells el (0,0)))):Sem.lwp P (newRow el cells) Q E h := fun r hr => hq r hr
theorem lwp_buildSlice {Q:Value -> Cells -> Prop} {t el:TypeId} {n:Nat} {parts:Array (Nat × Value)} {inf:TypeInfo} {z:Value} {cells:Array Value} (hu:P.underlying t = some (.slice el)) (hi:P.info? el = some inf) (hz:inf.zero = some z) (hn:n * inf.size <= 2 ^ 24) (hpos:n * inf.size ≠ 0)
  (hf:Instr.fill (fun i => some (i * inf.size,inf.size)) ((Array.range (n * inf.size)).map (z.cells[· % z.cells.size]!)) parts.toList = some cells) (hq:∀ r,h r = none -> Q (.slice (some ⟨r,0,none⟩) n n) (h.upd r (true,.cells cells el (0,0)))):Sem.lwp P (Instr.buildSlice t n parts) Q E h := by
 unfold Instr.buildSlice
 rw [lwp_bind,lwp_underlying hu]
 simp only []
 simp only [lwp_bind,lwp_sizeOf hi,if_neg (Nat.not_lt.2 hn),lwp_pure,if_neg hpos,lwp_zeroValue hi hz,hf]
 exact lwp_newRow hq
def OwnRow (el:TypeId) (k:Nat) (h:Cells) (p:Option Addr) (n c:Nat) (vs:List Value):Prop :=
 vs.length = n * k /\ ((p = none /\ n = 0 /\ c = 0) \/ ∃ (r:Nat) (cs:Array Value),p = some ⟨r,0,none⟩ /\ h r = some (true,.cells cs el (0,0)) /\ cs.size = c * k /\ n <= c /\ ∀ (j:Nat) (v:Value),vs[j]? = some v -> cs[j]? = some v)
theorem OwnRow.nil {el:TypeId} {k:Nat}:OwnRow el k h none 0 0 [] := ⟨by simp,.inl ⟨rfl,rfl,rfl⟩⟩
def KeptBut (p:Option Addr) (h h':Cells):Prop := ∀ r x,h r = some x -> (∀ a,p = some a -> a.block ≠ r) -> h' r = some x
theorem growBy_le (N:Nat):∀ (rounds c:Nat),c <= 2 * N + 400 -> Builtin.growBy N rounds c <= 2 * N + 400 := by
 intro rounds
 induction rounds with
 | zero => intro c hc; exact hc
 | succ k ih =>
  intro c hc
  unfold Builtin.growBy
  split
  ·exact hc
  ·exact ih _ (by omega)
theorem nextslicecap_le {N c:Nat} (hc:c < N):Builtin.nextslicecap N c <= 2 * N + 400 := by
 unfold Builtin.nextslicecap
 split
 ·omega
 ·split
  ·omega
  ·exact growBy_le N 4 c (by omega)
theorem setMany_get {vs:List Value} {cs:Array Value} {o:Nat} (ho:o + vs.length <= cs.size) (i:Nat):(setMany cs o vs)[i]? = if o <= i /\ i < o + vs.length then vs[i - o]? else cs[i]? := get_setMany vs cs o ho i
theorem lwp_loads {Q:Array Value -> Cells -> Prop} {l:List Value} {a:Addr} {n:Nat} (hn:l.length = n) (hc:∀ (t:Nat) v,l[t]? = some v -> h.cell? (a.add t) = some v) (hq:Q l.toArray h):Sem.lwp P (loadCells a n) Q E h := by
 unfold loadCells
 subst hn
 refine lwp_loadCells l a 0 #[] h (fun t v ht => by rw [Nat.zero_add]; exact hc t v ht) ?_
 rw [Array.empty_append]; exact hq
theorem lwp_append {Q:Value -> Cells -> Prop} {ts:Array TypeId} {ty sT xT el xe:TypeId} {inf:TypeInfo} {z:Value} {p:Option Addr} {n c m mc:Nat} {b:Addr} {vs ws:List Value} (h0:ts[0]? = some sT) (h1:ts[1]? = some xT) (hu:P.underlying sT = some (.slice el)) (hx:P.underlying xT = some (.slice xe))
  (hi:P.info? el = some inf) (hz:inf.zero = some z) (hsz:z.cells.size = inf.size) (hb:inf.bytes <= 1024) (hnm:n + m <= 2 ^ 30) (own:OwnRow el inf.size h p n c vs) (hl:ws.length = m * inf.size) (hc:∀ (j:Nat) v,ws[j]? = some v -> h.cell? (b.add j) = some v) (one:∀ v ∈ ws,isOne v = true) (hm:0 < m)
  (hq:∀ p' c' h',OwnRow el inf.size h' p' (n + m) c' (vs ++ ws) -> KeptBut p h h' -> (p' = p \/ ∃ r,p' = some ⟨r,0,none⟩ /\ h r = none) -> Q (.slice p' (n + m) c') h'):Sem.lwp P (Builtin.append_ ts ty #[.slice p n c,.slice (some b) m mc]) Q E h := by
 unfold Builtin.append_
 rw [h0,h1]
 simp only [List.getElem?_toArray,List.getElem?_cons_zero,List.getElem?_cons_succ]
 simp only [lwp_bind,lwp_underlying hu,lwp_sizeOf hi,lwp_underlying hx,lwp_pure,Bool.false_eq_true,if_false,Bool.not_false,if_true,Builtin.lenOf]
 obtain ⟨hvl,hown⟩ := own
 by_cases hroom:n + m <= c
 ·simp only [if_pos hroom,lwp_bind,Builtin.firstCells]
  refine lwp_loads (l := ws) hl hc ?_
  rcases hown with ⟨rfl,rfl,rfl⟩ | ⟨r,cs,rfl,hr,hcs,hnc,hv⟩
  ·omega
  ·simp only []
   have hle:n * inf.size + ws.length <= cs.size := by rw [hl,hcs,<- Nat.add_mul]; exact Nat.mul_le_mul_right _ hroom
   have ha:Addr.add ⟨r,0,none⟩ (n * inf.size) = ⟨r,n * inf.size,none⟩ := by unfold Addr.add; split <;> simp_all
   rw [ha]
   rw [lwp_bind]
   refine lwp_storeCells ws 0 h r (n * inf.size) cs el hr (by omega) one ?_
   rw [lwp_pure]
   refine hq _ _ _ ⟨by simp [hvl,hl,Nat.add_mul],.inr ⟨r,_,rfl,Cells.upd_self _ _ _,?_,hroom,?_⟩⟩ ?_ (.inl rfl)
   ·rw [size_setMany]; exact hcs
   ·intro j v hj
    rw [setMany_get (by omega)]
    by_cases hlt:j < vs.length
    ·rw [if_neg (by omega)]
     rw [List.getElem?_append_left hlt] at hj
     exact hv j v hj
    ·rw [List.getElem?_append_right (by omega)] at hj
     have hj':j - vs.length < ws.length := (List.getElem?_eq_some_iff.1 hj).1
     rw [if_pos (by omega),<- hj]; congr 1; omega
   ·intro r' x hx' hne
    have:r' ≠ r := fun e => hne _ rfl e.symm
    rw [Cells.upd_ne _ _ this]; exact hx'
 ·have hnot:¬ ((((n + m:Nat):Int) > IntKind.i64.max) /\ ((false:Bool) = true \/ inf.bytes = 0)) := by
   rintro ⟨h1,_⟩
   have e:IntKind.i64.max = 9223372036854775807 := rfl
   rw [e] at h1; omega
  have hcap := nextslicecap_le (Nat.lt_of_not_le hroom)
  have hbytes:¬ (Builtin.nextslicecap (n + m) c * inf.bytes > 2 ^ 48) := by
   have := Nat.mul_le_mul hcap hb
   have h2:(2 * (n + m) + 400) * 1024 <= (2 * 2 ^ 30 + 400) * 1024 := Nat.mul_le_mul_right _ (by omega)
   have:(2 * 2 ^ 30 + 400) * 1024 <= 2 ^ 48 := by decide
   omega
  have hnot':¬ ((((n + m:Nat):Int) > IntKind.i64.max) /\ (False \/ inf.bytes = 0)) := fun h => hnot ⟨h.1,h.2.imp_left False.elim⟩
  simp only [if_neg hroom,lwp_bind,lwp_typeInfo hi,if_neg hnot',if_neg hbytes,lwp_pure]
  have hch:∀ {K:Nat -> Cells -> Prop},(∀ a,n + m <= a -> K a h) -> Sem.lwp P (choose (Question.appendCap (n + m) c el)) K E h := by
   intro K hK
   show (if _ then _ else _)
   split
   ·rename_i hf; simp [Question.forced] at hf
   ·intro t; exact hK _ (Nat.le_add_right _ _)
  refine hch fun a ha => ?_
  have hroom':∀ {K:Unit -> Cells -> Prop},K () h -> Sem.lwp P (askRoom (a * inf.bytes)) K E h := by
   intro K hK
   unfold askRoom
   split
   ·exact ⟨rfl,hK⟩
   ·exact hK
  refine hroom' ?_
  have hold:∀ {K:Array Value -> Cells -> Prop},(∀ old:Array Value,old.toList = vs -> K old h) -> Sem.lwp P (Builtin.firstCells inf.size n (Value.slice p n c)) K E h := by
   intro K hK
   rcases hown with ⟨rfl,rfl,rfl⟩ | ⟨r,cs,rfl,hr,hcs,hnc,hv⟩
   ·have:vs = [] := List.eq_nil_of_length_eq_zero (by rw [hvl]; simp)
    simp only [Builtin.firstCells,lwp_pure]
    exact hK #[] (by rw [this])
   ·simp only [Builtin.firstCells]
    refine lwp_loads (l := vs) hvl (fun j v hj => ?_) (hK _ rfl)
    have e:Addr.add ⟨r,0,none⟩ j = ⟨r,j,none⟩ := by unfold Addr.add; split <;> simp_all
    rw [e]
    simp only [Cells.cell?,hr,Option.isSome_none,Bool.false_eq_true,if_false]
    exact hv j v hj
  refine hold fun old hold => ?_
  simp only [Builtin.firstCells]
  refine lwp_loads (l := ws) hl hc ?_
  simp only [lwp_zeroValue hi hz]
  refine lwp_newRow fun r hr => ?_
  have hzs:(Builtin.zeroCells z.cells (a - (n + m))).size = (a - (n + m)) * inf.size := by simp [Builtin.zeroCells,hsz]
  refine hq _ _ _ ⟨by simp [hvl,hl,Nat.add_mul],.inr ⟨r,_,rfl,Cells.upd_self _ _ _,?_,ha,?_⟩⟩ ?_ (.inr ⟨r,rfl,hr⟩)
  ·have e1:old.size = n * inf.size := by rw [<- Array.length_toList,hold,hvl]
   have e2:(ws.toArray).size = m * inf.size := by simp [hl]
   simp only [Array.size_append,e1,e2,hzs]
   rw [<- Nat.add_mul,<- Nat.add_mul]; congr 1; omega
  ·intro j v hj
   have hlen:j < (vs ++ ws).length := (List.getElem?_eq_some_iff.1 hj).1
   rw [<- Array.getElem?_toList,Array.toList_append,Array.toList_append,hold,List.getElem?_append_left (by simpa using hlen)]
   exact hj
  ·intro r' x hx' _
   have:r' ≠ r := by rintro rfl; rw [hr] at hx'; cases hx'
   rw [Cells.upd_ne _ _ this]; exact hx'
theorem info_of {t:TypeId} {s b:Nat} {z:Option Value} (h:(P.info? t).map (fun i => (i.size,i.bytes,i.zero)) = some (s,b,z)):∃ i,P.info? t = some i /\ i.size = s /\ i.bytes = b /\ i.zero = z := by
 cases hi:P.info? t with
 | none => rw [hi] at h; cases h
 | some i => rw [hi] at h; simp only [Option.map_some,Option.some.injEq,Prod.mk.injEq] at h; exact ⟨i,rfl,h.1,h.2.1,h.2.2⟩
theorem lwp_buildS {Q:Value -> Cells -> Prop} {t el:TypeId} {n s b:Nat} {parts:Array (Nat × Value)} {z:Value} {cells:Array Value} (hu:P.underlying t = some (.slice el)) (hi:(P.info? el).map (fun i => (i.size,i.bytes,i.zero)) = some (s,b,some z)) (hn:n * s <= 2 ^ 24) (hpos:n * s ≠ 0)
  (hf:Instr.fill (fun i => some (i * s,s)) ((Array.range (n * s)).map (z.cells[· % z.cells.size]!)) parts.toList = some cells) (hq:∀ r,h r = none -> Q (.slice (some ⟨r,0,none⟩) n n) (h.upd r (true,.cells cells el (0,0)))):Sem.lwp P (Instr.buildSlice t n parts) Q E h := by
 obtain ⟨i,h1,h2,_,h4⟩ := info_of hi
 subst h2
 exact lwp_buildSlice hu h1 h4 hn hpos hf hq
theorem lwp_appendS {Q:Value -> Cells -> Prop} {ts:Array TypeId} {ty sT xT el xe:TypeId} {s by_:Nat} {z:Value} {p:Option Addr} {n c m mc:Nat} {b:Addr} {vs ws:List Value} (h0:ts[0]? = some sT) (h1:ts[1]? = some xT) (hu:P.underlying sT = some (.slice el)) (hx:P.underlying xT = some (.slice xe))
  (hi:(P.info? el).map (fun i => (i.size,i.bytes,i.zero)) = some (s,by_,some z)) (hsz:z.cells.size = s) (hb:by_ <= 1024) (hnm:n + m <= 2 ^ 30) (own:OwnRow el s h p n c vs) (hl:ws.length = m * s) (hc:∀ (j:Nat) v,ws[j]? = some v -> h.cell? (b.add j) = some v) (one:∀ v ∈ ws,isOne v = true) (hm:0 < m)
  (hq:∀ p' c' h',OwnRow el s h' p' (n + m) c' (vs ++ ws) -> KeptBut p h h' -> (p' = p \/ ∃ r,p' = some ⟨r,0,none⟩ /\ h r = none) -> Q (.slice p' (n + m) c') h'):Sem.lwp P (Builtin.append_ ts ty #[.slice p n c,.slice (some b) m mc]) Q E h := by
 obtain ⟨i,g1,g2,g3,g4⟩ := info_of hi
 subst g2; subst g3
 exact lwp_append h0 h1 hu hx g1 g4 hsz hb hnm own hl hc one hm hq
theorem LH.upd_le {h:LH} {r:Nat} {x:Bool × Obj} (hr:h.get r = none):h.le { h with get := h.get.upd r x } := ⟨Cells.le_upd x hr,rfl,rfl,rfl⟩
theorem cell_upd {r i:Nat} {m:Bool} {cs:Array Value} {el:TypeId} {f:Nat × Nat} {v:Value} (hv:cs[i]? = some v):(h.upd r (m,.cells cs el f)).cell? ⟨r,i,none⟩ = some v := by
 simp [Cells.cell?,Cells.upd_self,hv]
theorem add_plain (r o i:Nat):Addr.add ⟨r,o,none⟩ i = ⟨r,o + i,none⟩ := by unfold Addr.add; split <;> simp_all
theorem t_build {X:XP} {Q:Leaf -> LH -> Prop} {h:LH} {k:Value -> T} {t el:TypeId} {n s b:Nat} {parts:Array (Nat × Value)} {z:Value} {cells:Array Value} (hu:P.underlying t = some (.slice el)) (hi:(P.info? el).map (fun i => (i.size,i.bytes,i.zero)) = some (s,b,some z)) (hn:n * s <= 2 ^ 24) (hpos:n * s ≠ 0)
  (hf:Instr.fill (fun i => some (i * s,s)) ((Array.range (n * s)).map (z.cells[· % z.cells.size]!)) parts.toList = some cells)
  (hk:∀ r,h.get r = none -> (k (.slice (some ⟨r,0,none⟩) n n)).wp X P Q { h with get := h.get.upd r (true,.cells cells el (0,0)) }):(T.sem false (Instr.buildSlice t n parts) k).wp X P Q h :=
 t_sem (A := fun v h' => ∃ r,h.get r = none /\ v = .slice (some ⟨r,0,none⟩) n n /\ h' = h.get.upd r (true,.cells cells el (0,0))) (lwp_buildS hu hi hn hpos hf fun r hr => ⟨r,hr,rfl,rfl⟩) (by rintro v h' ⟨r,hr,rfl,rfl⟩; exact hk r hr)
theorem t_append {X:XP} {Q:Leaf -> LH -> Prop} {h:LH} {k:Value -> T} {ts:Array TypeId} {ty sT xT el xe:TypeId} {s by_:Nat} {z:Value} {p:Option Addr} {n c m mc:Nat} {b:Addr} {vs ws:List Value} (h0:ts[0]? = some sT) (h1:ts[1]? = some xT) (hu:P.underlying sT = some (.slice el)) (hx:P.underlying xT = some (.slice xe))
  (hi:(P.info? el).map (fun i => (i.size,i.bytes,i.zero)) = some (s,by_,some z)) (hsz:z.cells.size = s) (hb:by_ <= 1024) (hnm:n + m <= 2 ^ 30) (own:OwnRow el s h.get p n c vs) (hl:ws.length = m * s) (hc:∀ (j:Nat) v,ws[j]? = some v -> h.get.cell? (b.add j) = some v) (one:∀ v ∈ ws,isOne v = true) (hm:0 < m)
  (hk:∀ p' c' h',OwnRow el s h' p' (n + m) c' (vs ++ ws) -> KeptBut p h.get h' -> (p' = p \/ ∃ r,p' = some ⟨r,0,none⟩ /\ h.get r = none) -> (k (.slice p' (n + m) c')).wp X P Q { h with get := h' }):(T.sem false (Builtin.append_ ts ty #[.slice p n c,.slice (some b) m mc]) k).wp X P Q h :=
 t_sem (A := fun v h' => ∃ p' c',v = .slice p' (n + m) c' /\ OwnRow el s h' p' (n + m) c' (vs ++ ws) /\ KeptBut p h.get h' /\ (p' = p \/ ∃ r,p' = some ⟨r,0,none⟩ /\ h.get r = none)) (lwp_appendS h0 h1 hu hx hi hsz hb hnm own hl hc one hm fun p' c' h' a b c => ⟨p',c',rfl,a,b,c⟩)
  (by rintro v h' ⟨p',c',rfl,a,b,c⟩; exact hk p' c' h' a b c)
theorem lwp_index {Q:Value -> Cells -> Prop} {t el:TypeId} {d:TypeDesc} {len b:Nat} {z:Option Value} {cs:Array Value} {k:IntKind} {i:Nat} {v:Value} (hu:P.underlying t = some (.array len el)) (hi:(P.info? el).map (fun i => (i.size,i.bytes,i.zero)) = some (1,b,z)) (he:P.underlying el = some d) (ha:isAggT P el = false)
  (hlt:i < len) (hv:cs[i]? = some v) (hq:Q v h):Sem.lwp P (Instr.index t (.agg cs) (.int k i)) Q E h := by
 obtain ⟨j,g1,g2,_,_⟩ := info_of hi
 unfold Instr.index
 simp only [asIntOf,lwp_bind,lwp_pure,lwp_underlying hu]
 rw [if_pos (by omega)]
 simp only [lwp_bind,lwp_sizeOf g1,part,lwp_isAgg_false he ha,g2,Int.toNat_natCast,Nat.mul_one,Bool.false_eq_true,if_false,hv]
 exact hq
theorem t_index {X:XP} {Q:Leaf -> LH -> Prop} {h:LH} {K:Value -> T} {t el:TypeId} {d:TypeDesc} {len b:Nat} {z:Option Value} {cs:Array Value} {k:IntKind} {i:Nat} {v:Value} (hu:P.underlying t = some (.array len el)) (hi:(P.info? el).map (fun i => (i.size,i.bytes,i.zero)) = some (1,b,z)) (he:P.underlying el = some d) (ha:isAggT P el = false)
  (hlt:i < len) (hv:cs[i]? = some v) (hk:(K v).wp X P Q h):(T.sem false (Instr.index t (.agg cs) (.int k i)) K).wp X P Q h :=
 t_sem (A := fun w h' => w = v /\ h' = h.get) (lwp_index hu hi he ha hlt hv ⟨rfl,rfl⟩) (by rintro w h' ⟨rfl,rfl⟩; exact hk)
end Go.TM
end
section
namespace Go.Proofs.YtfkfohpnpljihaaGreatDoor
open Go Go.TM Go.Proofs
theorem inf31:(Tryz.prog.info? 65).map (fun i => (i.size,i.bytes,i.zero)) = some (1,8,some (.int .i64 0)) := by kernel_rfl
theorem inf3:(Tryz.prog.info? 3).map (fun i => (i.size,i.bytes,i.zero)) = some (1,8,some (.int .i64 0)) := by kernel_rfl
theorem inf34:(Tryz.prog.info? 71).map (fun i => (i.size,i.bytes,i.zero)) = some (1,8,some (.int .i64 0)) := by kernel_rfl
theorem inf79:(Tryz.prog.info? 91).map (fun i => (i.size,i.bytes,i.zero)) = some (4,32,some (.agg #[.int .i64 0,.int .i64 0,.int .i64 0,.int .i64 0])) := by kernel_rfl
theorem inf64:(Tryz.prog.info? 34).map (fun i => (i.size,i.bytes,i.zero)) = some (3,40,some (.agg #[.int .i64 0,.int .i64 0,.slice none 0 0])) := by kernel_rfl
theorem inf69:(Tryz.prog.info? 32).map (fun i => (i.size,i.bytes,i.zero)) = some (4,48,some (.agg #[.int .i64 0,.int .i64 0,.int .i64 0,.slice none 0 0])) := by kernel_rfl
theorem inf50:(Tryz.prog.info? 30).map (fun i => (i.size,i.bytes,i.zero)) = some (1,24,some (.slice none 0 0)) := by kernel_rfl
theorem inf87:(Tryz.prog.info? 124).map (fun i => (i.size,i.bytes,i.zero)) = some (1,8,some .nilFunc) := by kernel_rfl
theorem inf30:(Tryz.prog.info? 29).map (fun i => (i.size,i.bytes,i.zero)) = some (2,16,some (.agg #[.int .i64 0,.int .i64 0])) := by kernel_rfl
theorem inf4:(Tryz.prog.info? 4).map (fun i => (i.size,i.bytes,i.zero)) = some (1,1,some (.bool false)) := by kernel_rfl
theorem und134:Tryz.prog.underlying 247 = some (.slice 65) := by kernel_rfl
theorem und50:Tryz.prog.underlying 30 = some (.slice 3) := by kernel_rfl
theorem und40:Tryz.prog.underlying 76 = some (.slice 71) := by kernel_rfl
theorem und45:Tryz.prog.underlying 79 = some (.slice 91) := by kernel_rfl
theorem und24:Tryz.prog.underlying 24 = some (.slice 34) := by kernel_rfl
theorem und23:Tryz.prog.underlying 23 = some (.slice 32) := by kernel_rfl
theorem und22:Tryz.prog.underlying 22 = some (.slice 29) := by kernel_rfl
theorem und104:Tryz.prog.underlying 129 = some (.chan .both 30) := by kernel_rfl
theorem und106:Tryz.prog.underlying 248 = some (.slice 30) := by kernel_rfl
theorem und110:Tryz.prog.underlying 179 = some (.slice 124) := by kernel_rfl
theorem und98:Tryz.prog.underlying 242 = some (.array 4 124) := by kernel_rfl
theorem und87:Tryz.prog.underlying 124 = some (.func #[133] #[65] false) := by kernel_rfl
theorem agg87:isAggT Tryz.prog 124 = false := by kernel_rfl
theorem und111:Tryz.prog.underlying 180 = some (.map 188 29) := by kernel_rfl
theorem und138:Tryz.prog.underlying 163 = some (.map 3 4) := by kernel_rfl
theorem und3:Tryz.prog.underlying 3 = some (.int .i64) := by kernel_rfl
end Go.Proofs.YtfkfohpnpljihaaGreatDoor
end
section
namespace Go.Proofs.YtfkfohpnpljihaaGreatDoor
open Go Go.TM Go.Proofs
set_option linter.unusedVariables false
set_option maxRecDepth 100000
variable {X:XP} {h:LH} {A:Value -> LH -> Prop}
noncomputable def n35 (ap:Option Addr) (an ac:Nat) (bp:Option Addr) (bn bc:Nat):T := bif (↑an:Int) != (↑bn:Int) then .leaf (.ret (.bool false)) else .loop [.bool false,.int .i64 0] (fun vs => .popB vs fun b vs => .popI .i64 vs fun n vs => .unNil vs (bif decide (n < (↑an:Int)) then .need (0 <= n /\ n < (↑an:Int)) (.someA ap fun a => .loadI .i64 (a.add (n.toNat * 1)) fun n_1 => .need (0 <= n /\ n < (↑bn:Int)) (.someA bp fun a => .loadI .i64 (a.add (n.toNat * 1)) fun n_2 => bif n_1 != n_2 then .leaf (.retn [.bool false,.int .i64 n]) else .leaf (.again [.bool b,.int .i64 (wrap .i64 (n + 1))]))) else .leaf (.brk [.bool b,.int .i64 n]))) (fun vs => .popB vs fun b vs => .popI .i64 vs fun n vs => .unNil vs (.leaf (.ret (.bool true)))) (fun vs => .popB vs fun b vs => .popI .i64 vs fun n vs => .unNil vs (.leaf (.ret (.bool b)))) fun x x_1 => .fail
theorem w35 (ap:Option Addr) (an ac:Nat) (bp:Option Addr) (bn bc:Nat):FX X 33 #[.slice ap an ac,.slice bp bn bc] h A (n35 ap an ac bp bn bc) := fk [] [⟨0,[(4,.bool),(5,.int .i64)],[],[],[],[]⟩] [] Tryz.f33
noncomputable def n49 (n first last:Int):T := bif decide (first <= n) then .leaf (.ret (.bool (decide (n <= last)))) else .leaf (.ret (.bool false))
theorem w49 (n first last:Int):FX X 50 #[.int .i64 n,.int .i64 first,.int .i64 last] h A (n49 n first last) := fk [] [] [] Tryz.f50
noncomputable def n97 (s1p:Option Addr) (s1n s1c:Nat) (s2p:Option Addr) (s2n s2c:Nat):T := .loop [.int .i64 0,.int .i64 0] (fun vs => .popI .i64 vs fun n vs => .popI .i64 vs fun n_1 vs => .unNil vs (bif decide (n_1 < (↑s1n:Int)) then .need (0 <= n_1 /\ n_1 < (↑s1n:Int)) (.someA s1p fun a => .loadI .i64 (a.add (n_1.toNat * 1)) fun n_2 => bif decide (n_1 >= (↑s2n:Int)) then .leaf (.retn [.int .i64 1,.int .i64 n_1]) else .need (0 <= n_1 /\ n_1 < (↑s2n:Int)) (.someA s2p fun a => .loadI .i64 (a.add (n_1.toNat * 1)) fun n_3 => .call false 129 #[.int .i64 n_2,.int .i64 n_3] fun v => .unI .i64 v fun n_4 => bif n_4 != 0 then .leaf (.retn [.int .i64 n_4,.int .i64 n_1]) else .leaf (.again [.int .i64 n,.int .i64 (wrap .i64 (n_1 + 1))]))) else .leaf (.brk [.int .i64 n,.int .i64 n_1]))) (fun vs => .popI .i64 vs fun n vs => .popI .i64 vs fun n vs => .unNil vs (bif decide ((↑s1n:Int) < (↑s2n:Int)) then .leaf (.ret (.int .i64 (-1))) else .leaf (.ret (.int .i64 0)))) (fun vs => .popI .i64 vs fun n vs => .popI .i64 vs fun n_1 vs => .unNil vs (.leaf (.ret (.int .i64 n)))) fun x x_1 => .fail
theorem w97 (s1p:Option Addr) (s1n s1c:Nat) (s2p:Option Addr) (s2n s2c:Nat):FX X 79 #[.slice s1p s1n s1c,.slice s2p s2n s2c] h A (n97 s1p s1n s1c s2p s2n s2c) := fk [] [⟨0,[(4,.int .i64),(11,.int .i64)],[],[],[],[]⟩] [] Tryz.f79
noncomputable def n100 (sp:Option Addr) (sn sc:Nat) (v:Int):T := .call false 171 #[.slice sp sn sc,.int .i64 v] fun v => .unI .i64 v fun n => .leaf (.ret (.bool (decide (n >= 0))))
theorem w100 (sp:Option Addr) (sn sc:Nat) (v:Int):FX X 125 #[.slice sp sn sc,.int .i64 v] h A (n100 sp sn sc v) := fk [] [] [] Tryz.f125
noncomputable def n105 (x y:Int):T := .call false 174 #[.int .i64 x] fun v => .unB v fun b => .call false 174 #[.int .i64 y] fun v => .unB v fun b_1 => bif b then bif b_1 then .leaf (.ret (.int .i64 0)) else .leaf (.ret (.int .i64 (-1))) else bif b_1 then .leaf (.ret (.int .i64 1)) else bif decide (x < y) then .leaf (.ret (.int .i64 (-1))) else bif decide (x > y) then .leaf (.ret (.int .i64 1)) else .leaf (.ret (.int .i64 0))
theorem w105 (x y:Int):FX X 129 #[.int .i64 x,.int .i64 y] h A (n105 x y) := fk [] [] [] Tryz.f129
noncomputable def n106 (sp:Option Addr) (sn sc:Nat) (v:Int):T := .loop [.int .i64 0,.int .i64 0] (fun vs => .popI .i64 vs fun n vs => .popI .i64 vs fun n_1 vs => .unNil vs (bif decide (n_1 < (↑sn:Int)) then .need (0 <= n_1 /\ n_1 < (↑sn:Int)) (.someA sp fun a => .loadI .i64 (a.add (n_1.toNat * 1)) fun n_2 => bif v == n_2 then .leaf (.retn [.int .i64 n_1,.int .i64 n_1]) else .leaf (.again [.int .i64 n,.int .i64 (wrap .i64 (n_1 + 1))])) else .leaf (.brk [.int .i64 n,.int .i64 n_1]))) (fun vs => .popI .i64 vs fun n vs => .popI .i64 vs fun n vs => .unNil vs (.leaf (.ret (.int .i64 (-1))))) (fun vs => .popI .i64 vs fun n vs => .popI .i64 vs fun n_1 vs => .unNil vs (.leaf (.ret (.int .i64 n)))) fun x x_1 => .fail
theorem w106 (sp:Option Addr) (sn sc:Nat) (v:Int):FX X 171 #[.slice sp sn sc,.int .i64 v] h A (n106 sp sn sc v) := fk [] [⟨0,[(4,.int .i64),(8,.int .i64)],[],[],[],[]⟩] [] Tryz.f171
noncomputable def n109 (x:Int):T := .leaf (.ret (.bool (x != x)))
theorem w109 (x:Int):FX X 174 #[.int .i64 x] h A (n109 x) := fk [] [] [] Tryz.f174
end Go.Proofs.YtfkfohpnpljihaaGreatDoor
end
section
namespace Go.Proofs.YtfkfohpnpljihaaGreatDoor
open Go Go.TM Go.Proofs
set_option linter.unusedVariables false
set_option maxRecDepth 100000
variable {X:XP} {h:LH} {A:Value -> LH -> Prop}
noncomputable def n17 (u_0 u_1 u_2 u_3:Int) (u_4p:Option Addr) (u_4n u_4c:Nat) (u_5p:Option Addr) (u_5n u_5c:Nat) (u_6p:Option Addr) (u_6n u_6c:Nat) (day:Int):T := .call false 59 #[.int .i64 day] fun v => .nd (.agg #[.int .i64 u_0,.int .i64 u_1,.int .i64 u_2,.int .i64 u_3,.slice u_4p u_4n u_4c,.slice u_5p u_5n u_5c,.slice u_6p u_6n u_6c]) (.sem false (Instr.buildSlice 179 1 #[(0,v)]) fun v => .unS v fun a n c => .nd (.agg #[.int .i64 u_0,.int .i64 u_1,.int .i64 u_2,.int .i64 u_3,.slice u_4p u_4n u_4c,.slice u_5p u_5n u_5c,.slice u_6p u_6n u_6c]) (.call false 58 #[.agg #[.int .i64 u_0,.int .i64 u_1,.int .i64 u_2,.int .i64 u_3,.slice u_4p u_4n u_4c,.slice u_5p u_5n u_5c,.slice u_6p u_6n u_6c],.slice a n c] fun v => .unTup v fun l => .unCons l fun v vs => .unP v fun a => .unCons vs fun v vs => .unI .i64 v fun n => .unNil vs (.nd (.int .i64 n) (bif n != 0 then .leaf (.ret (.tuple #[.agg #[.int .i64 0,.int .i64 0],.int .i64 n])) else .call false 60 #[.pointer a,.int .i64 day] fun v => .unAgg v fun l => .popI .i64 l fun n vs => .popI .i64 vs fun n_1 vs => .unNil vs (.leaf (.ret (.tuple #[.agg #[.int .i64 n,.int .i64 n_1],.int .i64 0])))))))
theorem w17 (u_0 u_1 u_2 u_3:Int) (u_4p:Option Addr) (u_4n u_4c:Nat) (u_5p:Option Addr) (u_5n u_5c:Nat) (u_6p:Option Addr) (u_6n u_6c:Nat) (day:Int):FX X 25 #[.agg #[.int .i64 u_0,.int .i64 u_1,.int .i64 u_2,.int .i64 u_3,.slice u_4p u_4n u_4c,.slice u_5p u_5n u_5c,.slice u_6p u_6n u_6c],.int .i64 day] h A (n17 u_0 u_1 u_2 u_3 u_4p u_4n u_4c u_5p u_5n u_5c u_6p u_6n u_6c day) := fk [2,4] [] [] Tryz.f25
noncomputable def n19 (u_0 u_1 u_2 u_3:Int) (u_4p:Option Addr) (u_4n u_4c:Nat) (u_5p:Option Addr) (u_5n u_5c:Nat) (u_6p:Option Addr) (u_6n u_6c:Nat) (land item day:Int):T := .call false 61 #[.int .i64 land] fun v => .nd (.int .i64 day) (.nd (.int .i64 item) (.nd (.agg #[.int .i64 u_0,.int .i64 u_1,.int .i64 u_2,.int .i64 u_3,.slice u_4p u_4n u_4c,.slice u_5p u_5n u_5c,.slice u_6p u_6n u_6c]) (.call false 62 #[.int .i64 item] fun v_1 => .nd (.int .i64 day) (.nd (.agg #[.int .i64 u_0,.int .i64 u_1,.int .i64 u_2,.int .i64 u_3,.slice u_4p u_4n u_4c,.slice u_5p u_5n u_5c,.slice u_6p u_6n u_6c]) (.call false 59 #[.int .i64 day] fun v_2 => .nd (.agg #[.int .i64 u_0,.int .i64 u_1,.int .i64 u_2,.int .i64 u_3,.slice u_4p u_4n u_4c,.slice u_5p u_5n u_5c,.slice u_6p u_6n u_6c]) (.sem false (Instr.buildSlice 179 3 #[(0,v),(1,v_1),(2,v_2)]) fun v => .unS v fun a n c => .nd (.agg #[.int .i64 u_0,.int .i64 u_1,.int .i64 u_2,.int .i64 u_3,.slice u_4p u_4n u_4c,.slice u_5p u_5n u_5c,.slice u_6p u_6n u_6c]) (.call false 58 #[.agg #[.int .i64 u_0,.int .i64 u_1,.int .i64 u_2,.int .i64 u_3,.slice u_4p u_4n u_4c,.slice u_5p u_5n u_5c,.slice u_6p u_6n u_6c],.slice a n c] fun v => .unTup v fun l => .unCons l fun v vs => .unP v fun a => .unCons vs fun v vs => .unI .i64 v fun n => .unNil vs (.nd (.int .i64 n) (bif n != 0 then .leaf (.ret (.tuple #[.int .i64 0,.int .i64 n])) else .call false 63 #[.pointer a,.int .i64 land,.int .i64 item,.int .i64 day] fun v => .unI .i64 v fun n => .leaf (.ret (.tuple #[.int .i64 n,.int .i64 0])))))))))))
theorem w19 (u_0 u_1 u_2 u_3:Int) (u_4p:Option Addr) (u_4n u_4c:Nat) (u_5p:Option Addr) (u_5n u_5c:Nat) (u_6p:Option Addr) (u_6n u_6c:Nat) (land item day:Int):FX X 26 #[.agg #[.int .i64 u_0,.int .i64 u_1,.int .i64 u_2,.int .i64 u_3,.slice u_4p u_4n u_4c,.slice u_5p u_5n u_5c,.slice u_6p u_6n u_6c],.int .i64 land,.int .i64 item,.int .i64 day] h A (n19 u_0 u_1 u_2 u_3 u_4p u_4n u_4c u_5p u_5n u_5c u_6p u_6n u_6c land item day) := fk [4] [] [] Tryz.f26
noncomputable def n21 (u_0 u_1 u_2 u_3:Int) (u_4p:Option Addr) (u_4n u_4c:Nat) (u_5p:Option Addr) (u_5n u_5c:Nat) (u_6p:Option Addr) (u_6n u_6c:Nat) (land item:Int):T := .call false 61 #[.int .i64 land] fun v => .nd (.int .i64 item) (.nd (.agg #[.int .i64 u_0,.int .i64 u_1,.int .i64 u_2,.int .i64 u_3,.slice u_4p u_4n u_4c,.slice u_5p u_5n u_5c,.slice u_6p u_6n u_6c]) (.call false 62 #[.int .i64 item] fun v_1 => .nd (.agg #[.int .i64 u_0,.int .i64 u_1,.int .i64 u_2,.int .i64 u_3,.slice u_4p u_4n u_4c,.slice u_5p u_5n u_5c,.slice u_6p u_6n u_6c]) (.sem false (Instr.buildSlice 179 2 #[(0,v),(1,v_1)]) fun v => .unS v fun a n c => .nd (.agg #[.int .i64 u_0,.int .i64 u_1,.int .i64 u_2,.int .i64 u_3,.slice u_4p u_4n u_4c,.slice u_5p u_5n u_5c,.slice u_6p u_6n u_6c]) (.call false 58 #[.agg #[.int .i64 u_0,.int .i64 u_1,.int .i64 u_2,.int .i64 u_3,.slice u_4p u_4n u_4c,.slice u_5p u_5n u_5c,.slice u_6p u_6n u_6c],.slice a n c] fun v => .unTup v fun l => .unCons l fun v vs => .unP v fun a => .unCons vs fun v vs => .unI .i64 v fun n => .unNil vs (.nd (.int .i64 n) (bif n != 0 then .leaf (.ret (.tuple #[.int .i64 0,.int .i64 n])) else .loop [.int .i64 0,.int .i64 0,.int .i64 u_2] (fun vs => .popI .i64 vs fun n vs => .popI .i64 vs fun n_1 vs => .popI .i64 vs fun n_2 vs => .unNil vs (bif decide (n_2 <= 2000) then .call false 63 #[.pointer a,.int .i64 land,.int .i64 item,.int .i64 n_2] fun v => .unI .i64 v fun n_3 => bif n_3 != 1 then .leaf (.retn [.int .i64 n_2,.int .i64 0,.int .i64 n_2]) else .leaf (.again [.int .i64 n,.int .i64 n_1,.int .i64 (wrap .i64 (n_2 + 1))]) else .leaf (.brk [.int .i64 n,.int .i64 n_1,.int .i64 n_2]))) (fun vs => .popI .i64 vs fun n vs => .popI .i64 vs fun n vs => .popI .i64 vs fun n vs => .unNil vs (.leaf (.ret (.tuple #[.int .i64 (-1),.int .i64 0])))) (fun vs => .popI .i64 vs fun n vs => .popI .i64 vs fun n_1 vs => .popI .i64 vs fun n_2 vs => .unNil vs (.leaf (.ret (.tuple #[.int .i64 n,.int .i64 n_1])))) fun x x_1 => .fail))))))
theorem w21 (u_0 u_1 u_2 u_3:Int) (u_4p:Option Addr) (u_4n u_4c:Nat) (u_5p:Option Addr) (u_5n u_5c:Nat) (u_6p:Option Addr) (u_6n u_6c:Nat) (land item:Int):FX X 27 #[.agg #[.int .i64 u_0,.int .i64 u_1,.int .i64 u_2,.int .i64 u_3,.slice u_4p u_4n u_4c,.slice u_5p u_5n u_5c,.slice u_6p u_6n u_6c],.int .i64 land,.int .i64 item] h A (n21 u_0 u_1 u_2 u_3 u_4p u_4n u_4c u_5p u_5n u_5c u_6p u_6n u_6c land item) := fk [3] [⟨0,[(6,.int .i64),(7,.int .i64),(10,.int .i64)],[3],[],[],[]⟩] [] Tryz.f27
noncomputable def n23 (u_0 u_1 u_2 u_3:Int) (u_4p:Option Addr) (u_4n u_4c:Nat) (u_5p:Option Addr) (u_5n u_5c:Nat) (u_6p:Option Addr) (u_6n u_6c:Nat) (land day:Int):T := .call false 61 #[.int .i64 land] fun v => .nd (.int .i64 day) (.nd (.agg #[.int .i64 u_0,.int .i64 u_1,.int .i64 u_2,.int .i64 u_3,.slice u_4p u_4n u_4c,.slice u_5p u_5n u_5c,.slice u_6p u_6n u_6c]) (.call false 59 #[.int .i64 day] fun v_1 => .nd (.agg #[.int .i64 u_0,.int .i64 u_1,.int .i64 u_2,.int .i64 u_3,.slice u_4p u_4n u_4c,.slice u_5p u_5n u_5c,.slice u_6p u_6n u_6c]) (.sem false (Instr.buildSlice 179 2 #[(0,v),(1,v_1)]) fun v => .unS v fun a n c => .nd (.agg #[.int .i64 u_0,.int .i64 u_1,.int .i64 u_2,.int .i64 u_3,.slice u_4p u_4n u_4c,.slice u_5p u_5n u_5c,.slice u_6p u_6n u_6c]) (.call false 58 #[.agg #[.int .i64 u_0,.int .i64 u_1,.int .i64 u_2,.int .i64 u_3,.slice u_4p u_4n u_4c,.slice u_5p u_5n u_5c,.slice u_6p u_6n u_6c],.slice a n c] fun v => .unTup v fun l => .unCons l fun v vs => .unP v fun a => .unCons vs fun v vs => .unI .i64 v fun n => .unNil vs (.nd (.int .i64 n) (bif n != 0 then .leaf (.ret (.tuple #[.slice none 0 0,.int .i64 n])) else .call false 64 #[.pointer a,.int .i64 land,.int .i64 day] fun v => .unS v fun a n c => .leaf (.ret (.tuple #[.slice a n c,.int .i64 0]))))))))
theorem w23 (u_0 u_1 u_2 u_3:Int) (u_4p:Option Addr) (u_4n u_4c:Nat) (u_5p:Option Addr) (u_5n u_5c:Nat) (u_6p:Option Addr) (u_6n u_6c:Nat) (land day:Int):FX X 28 #[.agg #[.int .i64 u_0,.int .i64 u_1,.int .i64 u_2,.int .i64 u_3,.slice u_4p u_4n u_4c,.slice u_5p u_5n u_5c,.slice u_6p u_6n u_6c],.int .i64 land,.int .i64 day] h A (n23 u_0 u_1 u_2 u_3 u_4p u_4n u_4c u_5p u_5n u_5c u_6p u_6n u_6c land day) := fk [3] [] [] Tryz.f28
noncomputable def n26 (u_0 u_1 u_2 u_3:Int) (u_4p:Option Addr) (u_4n u_4c:Nat) (u_5p:Option Addr) (u_5n u_5c:Nat) (u_6p:Option Addr) (u_6n u_6c:Nat):T := .loadV (Addr.add { block := 1,off := 0 } 0) fun v => .loadV (Addr.add { block := 1,off := 0 } 1) fun v_1 => .loadV (Addr.add { block := 1,off := 0 } 2) fun v_2 => .loadV (Addr.add { block := 1,off := 0 } 3) fun v_3 => .loop [.int .i64 0,.int .i64 0] (fun vs => .popI .i64 vs fun n vs => .popI .i64 vs fun n_1 vs => .unNil vs (bif decide (n_1 < 4) then .sem false (Instr.index 242 (.agg #[v,v_1,v_2,v_3]) (.int .i64 n_1)) fun v => .callv false v #[.agg #[.int .i64 u_0,.int .i64 u_1,.int .i64 u_2,.int .i64 u_3,.slice u_4p u_4n u_4c,.slice u_5p u_5n u_5c,.slice u_6p u_6n u_6c]] fun v => .unI .i64 v fun n_2 => bif n_2 != 0 then .leaf (.retn [.int .i64 n_2,.int .i64 n_1]) else .leaf (.again [.int .i64 n,.int .i64 (wrap .i64 (n_1 + 1))]) else .leaf (.brk [.int .i64 n,.int .i64 n_1]))) (fun vs => .popI .i64 vs fun n vs => .popI .i64 vs fun n vs => .unNil vs (.leaf (.ret (.int .i64 0)))) (fun vs => .popI .i64 vs fun n vs => .popI .i64 vs fun n_1 vs => .unNil vs (.leaf (.ret (.int .i64 n)))) fun x x_1 => .fail
theorem w26 (u_0 u_1 u_2 u_3:Int) (u_4p:Option Addr) (u_4n u_4c:Nat) (u_5p:Option Addr) (u_5n u_5c:Nat) (u_6p:Option Addr) (u_6n u_6c:Nat):FX X 96 #[.agg #[.int .i64 u_0,.int .i64 u_1,.int .i64 u_2,.int .i64 u_3,.slice u_4p u_4n u_4c,.slice u_5p u_5n u_5c,.slice u_6p u_6n u_6c]] h A (n26 u_0 u_1 u_2 u_3 u_4p u_4n u_4c u_5p u_5n u_5c u_6p u_6n u_6c) := fk [1] [⟨0,[(2,.int .i64),(7,.int .i64)],[1],[],[],[]⟩] [] Tryz.f96
noncomputable def n28 (u_0 u_1 u_2 u_3:Int) (u_4p:Option Addr) (u_4n u_4c:Nat) (u_5p:Option Addr) (u_5n u_5c:Nat) (u_6p:Option Addr) (u_6n u_6c:Nat) (land day:Int):T := .call false 61 #[.int .i64 land] fun v => .nd (.int .i64 day) (.nd (.agg #[.int .i64 u_0,.int .i64 u_1,.int .i64 u_2,.int .i64 u_3,.slice u_4p u_4n u_4c,.slice u_5p u_5n u_5c,.slice u_6p u_6n u_6c]) (.call false 59 #[.int .i64 day] fun v_1 => .nd (.agg #[.int .i64 u_0,.int .i64 u_1,.int .i64 u_2,.int .i64 u_3,.slice u_4p u_4n u_4c,.slice u_5p u_5n u_5c,.slice u_6p u_6n u_6c]) (.sem false (Instr.buildSlice 179 2 #[(0,v),(1,v_1)]) fun v => .unS v fun a n c => .nd (.agg #[.int .i64 u_0,.int .i64 u_1,.int .i64 u_2,.int .i64 u_3,.slice u_4p u_4n u_4c,.slice u_5p u_5n u_5c,.slice u_6p u_6n u_6c]) (.call false 58 #[.agg #[.int .i64 u_0,.int .i64 u_1,.int .i64 u_2,.int .i64 u_3,.slice u_4p u_4n u_4c,.slice u_5p u_5n u_5c,.slice u_6p u_6n u_6c],.slice a n c] fun v => .unTup v fun l => .unCons l fun v vs => .unP v fun a => .unCons vs fun v vs => .unI .i64 v fun n => .unNil vs (.nd (.int .i64 n) (bif n != 0 then .leaf (.ret (.tuple #[.slice none 0 0,.int .i64 n])) else .loop [.slice none 0 0,.int .i64 0] (fun vs => .popS vs fun a_1 n c vs => .popI .i64 vs fun n_1 vs => .unNil vs (bif decide (n_1 < (↑u_6n:Int)) then .need (0 <= n_1 /\ n_1 < (↑u_6n:Int)) (.someA u_6p fun a_2 => .loadI .i64 ((a_2.add (n_1.toNat * 3)).add 0) fun n_2 => .loadI .i64 ((a_2.add (n_1.toNat * 3)).add 1) fun n_3 => .loadS ((a_2.add (n_1.toNat * 3)).add 2) fun p n_4 c_1 => .blk (bif n_3 != land then .leaf (.out 1 []) else bif decide (n_2 > day) then .leaf (.out 1 []) else .leaf (.again [])) (fun vs => .unNil vs (.loop [.slice a_1 n c,.int .i64 0] (fun vs => .popS vs fun a_3 n c vs => .popI .i64 vs fun n_5 vs => .unNil vs (bif decide (n_5 < (↑n_4:Int)) then .need (0 <= n_5 /\ n_5 < (↑n_4:Int)) (.someA p fun a_4 => .loadI .i64 (a_4.add (n_5.toNat * 1)) fun n_6 => .call false 63 #[.pointer a,.int .i64 land,.int .i64 n_6,.int .i64 n_2] fun v => .unI .i64 v fun n_7 => bif n_7 != 1 then .call false 60 #[.pointer a,.int .i64 n_2] fun v => .unAgg v fun l => .popI .i64 l fun n_8 vs => .popI .i64 vs fun n_9 vs => .unNil vs (.sem false (Instr.buildSlice 79 1 #[(0,.agg #[.int .i64 n_6,.int .i64 n_1,.int .i64 n_8,.int .i64 n_9])]) fun v => .unS v fun a n_10 c_2 => .sem false (Builtin.append_ #[79,79] 79 #[.slice a_3 n c,.slice a n_10 c_2]) fun v => .unS v fun a n c => .leaf (.again [.slice a n c,.int .i64 (wrap .i64 (n_5 + 1))])) else .leaf (.again [.slice a_3 n c,.int .i64 (wrap .i64 (n_5 + 1))])) else .leaf (.brk [.slice a_3 n c,.int .i64 n_5]))) (fun vs => .popS vs fun a n c vs => .popI .i64 vs fun n_5 vs => .unNil vs (.leaf (.again [.slice a n c,.int .i64 (wrap .i64 (n_1 + 1))]))) (fun vs => .popS vs fun a n c vs => .popI .i64 vs fun n_5 vs => .unNil vs (.leaf (.retn [.slice a n c,.int .i64 n_1]))) fun x x_1 => .fail)) (fun vs => .unNil vs (.leaf (.retn [.slice a_1 n c,.int .i64 n_1]))) fun x x_1 => bif Nat.beq x 1 then .unNil x_1 (.leaf (.again [.slice a_1 n c,.int .i64 (wrap .i64 (n_1 + 1))])) else .fail) else .leaf (.brk [.slice a_1 n c,.int .i64 n_1]))) (fun vs => .popS vs fun a n c vs => .popI .i64 vs fun n_1 vs => .unNil vs (.leaf (.ret (.tuple #[.slice a n c,.int .i64 0])))) (fun vs => .popS vs fun a n c vs => .popI .i64 vs fun n vs => .unNil vs (.leaf (.ret (.tuple #[.slice none 0 0,.int .i64 0])))) fun x x_1 => .fail))))))
theorem w28 (u_0 u_1 u_2 u_3:Int) (u_4p:Option Addr) (u_4n u_4c:Nat) (u_5p:Option Addr) (u_5n u_5c:Nat) (u_6p:Option Addr) (u_6n u_6c:Nat) (land day:Int):FX X 29 #[.agg #[.int .i64 u_0,.int .i64 u_1,.int .i64 u_2,.int .i64 u_3,.slice u_4p u_4n u_4c,.slice u_5p u_5n u_5c,.slice u_6p u_6n u_6c],.int .i64 land,.int .i64 day] h A (n28 u_0 u_1 u_2 u_3 u_4p u_4n u_4c u_5p u_5n u_5c u_6p u_6n u_6c land day) := fk [3,12] [⟨2,[(10,.slice),(49,.int .i64)],[3,12],[],[],[]⟩,⟨0,[(10,.slice),(31,.int .i64)],[3],[],[],[]⟩] [⟨9,[],[3,12],[1],[],[]⟩] Tryz.f29
noncomputable def n31 (u_0 u_1 u_2 u_3:Int) (u_4p:Option Addr) (u_4n u_4c:Nat) (u_5p:Option Addr) (u_5n u_5c:Nat) (u_6p:Option Addr) (u_6n u_6c:Nat) (land day:Int) (papersp:Option Addr) (papersn papersc:Nat):T := .new 30 #[.slice papersp papersn papersc] fun r => .call false 61 #[.int .i64 land] fun v => .nd (.func (Fn.func 68) #[] #[.pointer (some { block := r,off := 0 })]) (.nd (.int .i64 day) (.nd (.agg #[.int .i64 u_0,.int .i64 u_1,.int .i64 u_2,.int .i64 u_3,.slice u_4p u_4n u_4c,.slice u_5p u_5n u_5c,.slice u_6p u_6n u_6c]) (.call false 59 #[.int .i64 day] fun v_1 => .nd (.func (Fn.func 68) #[] #[.pointer (some { block := r,off := 0 })]) (.nd (.agg #[.int .i64 u_0,.int .i64 u_1,.int .i64 u_2,.int .i64 u_3,.slice u_4p u_4n u_4c,.slice u_5p u_5n u_5c,.slice u_6p u_6n u_6c]) (.sem false (Instr.buildSlice 179 3 #[(0,v),(1,v_1),(2,.func (Fn.func 68) #[] #[.pointer (some { block := r,off := 0 })])]) fun v => .unS v fun a n c => .nd (.agg #[.int .i64 u_0,.int .i64 u_1,.int .i64 u_2,.int .i64 u_3,.slice u_4p u_4n u_4c,.slice u_5p u_5n u_5c,.slice u_6p u_6n u_6c]) (.call false 58 #[.agg #[.int .i64 u_0,.int .i64 u_1,.int .i64 u_2,.int .i64 u_3,.slice u_4p u_4n u_4c,.slice u_5p u_5n u_5c,.slice u_6p u_6n u_6c],.slice a n c] fun v => .unTup v fun l => .unCons l fun v vs => .unP v fun a => .unCons vs fun v vs => .unI .i64 v fun n => .unNil vs (.nd (.int .i64 n) (bif n != 0 then .leaf (.ret (.tuple #[.bool false,.int .i64 n])) else .loadS { block := r,off := 0 } fun p n c => .call false 64 #[.pointer a,.int .i64 land,.int .i64 day] fun v => .unS v fun a n_1 c_1 => .loadS { block := r,off := 0 } fun p_1 n_2 c_2 => .ne (.slice p_1 n_2 c_2) (.slice p n c) (.nd (.int .i64 day) (.nd (.int .i64 land) (.nd (.agg #[.int .i64 u_0,.int .i64 u_1,.int .i64 u_2,.int .i64 u_3,.slice u_4p u_4n u_4c,.slice u_5p u_5n u_5c,.slice u_6p u_6n u_6c]) (.call false 66 #[.agg #[.int .i64 u_0,.int .i64 u_1,.int .i64 u_2,.int .i64 u_3,.slice u_4p u_4n u_4c,.slice u_5p u_5n u_5c,.slice u_6p u_6n u_6c],.int .i64 land,.int .i64 day,.slice p n c,.slice a n_1 c_1] fun v => .unB v fun b => .leaf (.ret (.tuple #[.bool b,.int .i64 0]))))))))))))))
theorem w31 (u_0 u_1 u_2 u_3:Int) (u_4p:Option Addr) (u_4n u_4c:Nat) (u_5p:Option Addr) (u_5n u_5c:Nat) (u_6p:Option Addr) (u_6n u_6c:Nat) (land day:Int) (papersp:Option Addr) (papersn papersc:Nat):FX X 31 #[.agg #[.int .i64 u_0,.int .i64 u_1,.int .i64 u_2,.int .i64 u_3,.slice u_4p u_4n u_4c,.slice u_5p u_5n u_5c,.slice u_6p u_6n u_6c],.int .i64 land,.int .i64 day,.slice papersp papersn papersc] h A (n31 u_0 u_1 u_2 u_3 u_4p u_4n u_4c u_5p u_5n u_5c u_6p u_6n u_6c land day papersp papersn papersc) := fk [4] [] [] Tryz.f31
noncomputable def n33 (u_0 u_1 u_2 u_3:Int) (u_4p:Option Addr) (u_4n u_4c:Nat) (u_5p:Option Addr) (u_5n u_5c:Nat) (u_6p:Option Addr) (u_6n u_6c:Nat) (land day:Int):T := .new 26 #[.int .i64 u_0,.int .i64 u_1,.int .i64 u_2,.int .i64 u_3,.slice u_4p u_4n u_4c,.slice u_5p u_5n u_5c,.slice u_6p u_6n u_6c] fun r => .new 3 #[.int .i64 land] fun r_1 => .new 3 #[.int .i64 day] fun r_2 => .loadI .i64 (Addr.add { block := r,off := 0 } 0) fun n => .loadI .i64 (Addr.add { block := r,off := 0 } 1) fun n_1 => .loadI .i64 (Addr.add { block := r,off := 0 } 2) fun n_2 => .loadI .i64 (Addr.add { block := r,off := 0 } 3) fun n_3 => .loadS (Addr.add { block := r,off := 0 } 4) fun p n_4 c => .loadS (Addr.add { block := r,off := 0 } 5) fun p_1 n_5 c_1 => .loadS (Addr.add { block := r,off := 0 } 6) fun p_2 n_6 c_2 => .loadI .i64 { block := r_1,off := 0 } fun n_7 => .loadI .i64 { block := r_2,off := 0 } fun n_8 => .call false 61 #[.int .i64 n_7] fun v => .loadI .i64 { block := r_2,off := 0 } fun n_9 => .ne (.int .i64 n_9) (.int .i64 n_8) (.loadI .i64 (Addr.add { block := r,off := 0 } 0) fun n_10 => .loadI .i64 (Addr.add { block := r,off := 0 } 1) fun n_11 => .loadI .i64 (Addr.add { block := r,off := 0 } 2) fun n_12 => .loadI .i64 (Addr.add { block := r,off := 0 } 3) fun n_13 => .loadS (Addr.add { block := r,off := 0 } 4) fun p_3 n_14 c_3 => .loadS (Addr.add { block := r,off := 0 } 5) fun p_4 n_15 c_4 => .loadS (Addr.add { block := r,off := 0 } 6) fun p_5 n_16 c_5 => .ne (.agg #[.int .i64 n_10,.int .i64 n_11,.int .i64 n_12,.int .i64 n_13,.slice p_3 n_14 c_3,.slice p_4 n_15 c_4,.slice p_5 n_16 c_5]) (.agg #[.int .i64 n,.int .i64 n_1,.int .i64 n_2,.int .i64 n_3,.slice p n_4 c,.slice p_1 n_5 c_1,.slice p_2 n_6 c_2]) (.call false 59 #[.int .i64 n_8] fun v_1 => .loadI .i64 (Addr.add { block := r,off := 0 } 0) fun n_17 => .loadI .i64 (Addr.add { block := r,off := 0 } 1) fun n_18 => .loadI .i64 (Addr.add { block := r,off := 0 } 2) fun n_19 => .loadI .i64 (Addr.add { block := r,off := 0 } 3) fun n_20 => .loadS (Addr.add { block := r,off := 0 } 4) fun p_6 n_21 c_6 => .loadS (Addr.add { block := r,off := 0 } 5) fun p_7 n_22 c_7 => .loadS (Addr.add { block := r,off := 0 } 6) fun p_8 n_23 c_8 => .ne (.agg #[.int .i64 n_17,.int .i64 n_18,.int .i64 n_19,.int .i64 n_20,.slice p_6 n_21 c_6,.slice p_7 n_22 c_7,.slice p_8 n_23 c_8]) (.agg #[.int .i64 n,.int .i64 n_1,.int .i64 n_2,.int .i64 n_3,.slice p n_4 c,.slice p_1 n_5 c_1,.slice p_2 n_6 c_2]) (.sem false (Instr.buildSlice 179 2 #[(0,v),(1,v_1)]) fun v => .unS v fun a n_24 c_9 => .loadI .i64 (Addr.add { block := r,off := 0 } 0) fun n_25 => .loadI .i64 (Addr.add { block := r,off := 0 } 1) fun n_26 => .loadI .i64 (Addr.add { block := r,off := 0 } 2) fun n_27 => .loadI .i64 (Addr.add { block := r,off := 0 } 3) fun n_28 => .loadS (Addr.add { block := r,off := 0 } 4) fun p_9 n_29 c_10 => .loadS (Addr.add { block := r,off := 0 } 5) fun p_10 n_30 c_11 => .loadS (Addr.add { block := r,off := 0 } 6) fun p_11 n_31 c_12 => .ne (.agg #[.int .i64 n_25,.int .i64 n_26,.int .i64 n_27,.int .i64 n_28,.slice p_9 n_29 c_10,.slice p_10 n_30 c_11,.slice p_11 n_31 c_12]) (.agg #[.int .i64 n,.int .i64 n_1,.int .i64 n_2,.int .i64 n_3,.slice p n_4 c,.slice p_1 n_5 c_1,.slice p_2 n_6 c_2]) (.call false 58 #[.agg #[.int .i64 n,.int .i64 n_1,.int .i64 n_2,.int .i64 n_3,.slice p n_4 c,.slice p_1 n_5 c_1,.slice p_2 n_6 c_2],.slice a n_24 c_9] fun v => .unTup v fun l => .unCons l fun v vs => .unP v fun a => .unCons vs fun v vs => .unI .i64 v fun n => .unNil vs (.nd (.int .i64 n) (bif n != 0 then .leaf (.ret (.tuple #[.slice none 0 0,.int .i64 n])) else .loadI .i64 { block := r_1,off := 0 } fun n => .loadI .i64 { block := r_2,off := 0 } fun n_32 => .call false 64 #[.pointer a,.int .i64 n,.int .i64 n_32] fun v => .unS v fun a n c => .new 76 #[.slice none 0 0] fun r_3 => .store (Addr.add { block := r_3,off := 0 } 0) (.slice a n c) (.sem false (Instr.makeChan 129 (.int .i64 0)) fun v => .unC v fun a => .new 129 #[.chan none] fun r_4 => .store (Addr.add { block := r_4,off := 0 } 0) (.chan a) (.loadS (Addr.add { block := r,off := 0 } 5) fun p n c => .need (0 <= (↑n:Int)) (.loop [.int .i64 0] (fun vs => .popI .i64 vs fun n_33 vs => .unNil vs (bif decide (n_33 < wrap .i64 (1 * 2 ^ min (Int.toNat (↑n:Int)) 64)) then .new 3 #[.int .i64 0] fun r_5 => .store (Addr.add { block := r_5,off := 0 } 0) (.int .i64 n_33) (.spawn (.func (Fn.func 65) #[] #[.pointer (some { block := r,off := 0 }),.pointer (some { block := r_5,off := 0 }),.pointer (some { block := r_1,off := 0 }),.pointer (some { block := r_2,off := 0 }),.pointer (some { block := r_3,off := 0 }),.pointer (some { block := r_4,off := 0 })]) #[] (.leaf (.again [.int .i64 (wrap .i64 (n_33 + 1))]))) else .leaf (.brk [.int .i64 n_33]))) (fun vs => .popI .i64 vs fun n_33 vs => .unNil vs (.loop [.slice none 0 0,.int .i64 0] (fun vs => .popS vs fun a n_34 c vs => .popI .i64 vs fun n_35 vs => .unNil vs (bif decide (n_35 < wrap .i64 (1 * 2 ^ min (Int.toNat (↑n:Int)) 64)) then .loadC { block := r_4,off := 0 } fun p => .comm false #[{ chan := .chan p,send := none,zero := .slice none 0 0 }] (CommShape.recv false) fun v => .unS v fun a_1 n c_13 => .sem false (Sem.bind (eqGuard BinOp.neq 30 (Operand.tmp 49) (Operand.const (.slice none 0 0)) (.slice a_1 n c_13) (.slice none 0 0)) fun __r => binOp BinOp.neq 30 (.slice a_1 n c_13) (.slice none 0 0)) fun v => .unB v fun b => bif b then .sem false (Sem.bind (eqGuard BinOp.eql 30 (Operand.tmp 52) (Operand.const (.slice none 0 0)) (.slice a n_34 c) (.slice none 0 0)) fun __r => binOp BinOp.eql 30 (.slice a n_34 c) (.slice none 0 0)) fun v => .unB v fun b => bif b then .leaf (.again [.slice a_1 n c_13,.int .i64 (wrap .i64 (n_35 + 1))]) else .call false 67 #[.slice a_1 n c_13,.slice a n_34 c] fun v => .unI .i64 v fun n_36 => bif decide (n_36 < 0) then .leaf (.again [.slice a_1 n c_13,.int .i64 (wrap .i64 (n_35 + 1))]) else .leaf (.again [.slice a n_34 c,.int .i64 (wrap .i64 (n_35 + 1))]) else .leaf (.again [.slice a n_34 c,.int .i64 (wrap .i64 (n_35 + 1))]) else .leaf (.brk [.slice a n_34 c,.int .i64 n_35]))) (fun vs => .popS vs fun a n c vs => .popI .i64 vs fun n_34 vs => .unNil vs (.loadC { block := r_4,off := 0 } fun p => .sem false (Builtin.close_ #[129] 0 #[.chan p]) fun v => .leaf (.ret (.tuple #[.slice a n c,.int .i64 0])))) (fun vs => .popS vs fun a n c vs => .popI .i64 vs fun n vs => .unNil vs (.leaf (.ret (.tuple #[.slice none 0 0,.int .i64 0])))) fun x x_1 => .fail)) (fun vs => .popI .i64 vs fun n vs => .unNil vs (.leaf (.ret (.tuple #[.slice none 0 0,.int .i64 0])))) fun x x_1 => .fail)))))))))
theorem w33 (u_0 u_1 u_2 u_3:Int) (u_4p:Option Addr) (u_4n u_4c:Nat) (u_5p:Option Addr) (u_5n u_5c:Nat) (u_6p:Option Addr) (u_6n u_6c:Nat) (land day:Int):FX X 30 #[.agg #[.int .i64 u_0,.int .i64 u_1,.int .i64 u_2,.int .i64 u_3,.slice u_4p u_4n u_4c,.slice u_5p u_5n u_5c,.slice u_6p u_6n u_6c],.int .i64 land,.int .i64 day] h A (n33 u_0 u_1 u_2 u_3 u_4p u_4n u_4c u_5p u_5n u_5c u_6p u_6n u_6c land day) := fk [] [⟨0,[(39,.int .i64)],[],[],[],[]⟩,⟨2,[(14,.slice),(45,.int .i64)],[],[],[],[]⟩] [] Tryz.f30
noncomputable def n53 (u_0 u_1 u_2 u_3:Int) (u_4p:Option Addr) (u_4n u_4c:Nat) (u_5p:Option Addr) (u_5n u_5c:Nat) (u_6p:Option Addr) (u_6n u_6c:Nat) (wrongp:Option Addr) (wrongn wrongc:Nat):T := .call false 96 #[.agg #[.int .i64 u_0,.int .i64 u_1,.int .i64 u_2,.int .i64 u_3,.slice u_4p u_4n u_4c,.slice u_5p u_5n u_5c,.slice u_6p u_6n u_6c]] fun v => .unI .i64 v fun n => bif n != 0 then .leaf (.ret (.tuple #[.pointer none,.int .i64 n])) else .loop [.pointer none,.int .i64 0,.int .i64 0] (fun vs => .popP vs fun a vs => .popI .i64 vs fun n vs => .popI .i64 vs fun n_1 vs => .unNil vs (bif decide (n_1 < (↑wrongn:Int)) then .need (0 <= n_1 /\ n_1 < (↑wrongn:Int)) (.someA wrongp fun a_1 => .loadV (a_1.add (n_1.toNat * 1)) fun v => .callv false v #[.agg #[.int .i64 u_0,.int .i64 u_1,.int .i64 u_2,.int .i64 u_3,.slice u_4p u_4n u_4c,.slice u_5p u_5n u_5c,.slice u_6p u_6n u_6c]] fun v => .unI .i64 v fun n_2 => bif n_2 != 0 then .leaf (.retn [.pointer none,.int .i64 n_2,.int .i64 n_1]) else .leaf (.again [.pointer a,.int .i64 n,.int .i64 (wrap .i64 (n_1 + 1))])) else .leaf (.brk [.pointer a,.int .i64 n,.int .i64 n_1]))) (fun vs => .popP vs fun a vs => .popI .i64 vs fun n vs => .popI .i64 vs fun n_1 vs => .unNil vs (.sem false (Instr.makeMap 180 none) fun v => .unM v fun a_1 => .sem false (Instr.build 183 #[(0,.agg #[.int .i64 u_0,.int .i64 u_1,.int .i64 u_2,.int .i64 u_3,.slice u_4p u_4n u_4c,.slice u_5p u_5n u_5c,.slice u_6p u_6n u_6c]),(2,.map a_1)]) fun v => .new 183 (Value.cells v) fun r => .loop [.int .i64 0] (fun vs => .popI .i64 vs fun n vs => .unNil vs (bif decide (n < 2001) then .new 3 #[.int .i64 0] fun r_1 => .store (Addr.add { block := r_1,off := 0 } 0) (.int .i64 n) (.loadI .i64 { block := r_1,off := 0 } fun n_2 => .someA (some { block := r,off := 0 }) fun a => .call false 97 #[.slice u_4p u_4n u_4c,.func (Fn.func 98) #[] #[.pointer (some { block := r_1,off := 0 })]] fun v => .unB v fun b => .nd (.pointer (some (a.add 7))) (.someA (some { block := r,off := 0 }) fun a_2 => .ne (.pointer (some a_2)) (.pointer (some a)) (.np 2 4 (.loadI .i64 { block := r_1,off := 0 } fun n_3 => .ne (.int .i64 n_3) (.int .i64 n_2) (.nd (.pointer (some { block := r,off := 0 })) (.need (0 <= n_2 /\ n_2 < (↑2001:Int)) (.store (((a.add 7).add (n_2.toNat * 1)).add 0) (.bool !b) (.nd (.pointer (some (a.add 7))) (.someA (some { block := r,off := 0 }) fun a_3 => .ne (.pointer (some a_3)) (.pointer (some a)) (.leaf (.again [.int .i64 (wrap .i64 (n + 1))]))))))))))) else .leaf (.brk [.int .i64 n]))) (fun vs => .popI .i64 vs fun n vs => .unNil vs (.leaf (.ret (.tuple #[.pointer (some { block := r,off := 0 }),.int .i64 0])))) (fun vs => .popI .i64 vs fun n_2 vs => .unNil vs (.leaf (.ret (.tuple #[.pointer a,.int .i64 n])))) fun x x_1 => .fail)) (fun vs => .popP vs fun a vs => .popI .i64 vs fun n vs => .popI .i64 vs fun n_1 vs => .unNil vs (.leaf (.ret (.tuple #[.pointer a,.int .i64 n])))) fun x x_1 => .fail
theorem w53 (u_0 u_1 u_2 u_3:Int) (u_4p:Option Addr) (u_4n u_4c:Nat) (u_5p:Option Addr) (u_5n u_5c:Nat) (u_6p:Option Addr) (u_6n u_6c:Nat) (wrongp:Option Addr) (wrongn wrongc:Nat):FX X 58 #[.agg #[.int .i64 u_0,.int .i64 u_1,.int .i64 u_2,.int .i64 u_3,.slice u_4p u_4n u_4c,.slice u_5p u_5n u_5c,.slice u_6p u_6n u_6c],.slice wrongp wrongn wrongc] h A (n53 u_0 u_1 u_2 u_3 u_4p u_4n u_4c u_5p u_5n u_5c u_6p u_6n u_6c wrongp wrongn wrongc) := fk [2] [⟨0,[(4,.ptr),(5,.int .i64),(19,.int .i64)],[2],[],[],[]⟩,⟨2,[(36,.int .i64)],[2],[],[],[]⟩] [] Tryz.f58
noncomputable def n54 (day:Int):T := .new 3 #[.int .i64 day] fun r => .leaf (.ret (.func (Fn.func 100) #[] #[.pointer (some { block := r,off := 0 })]))
theorem w54 (day:Int):FX X 59 #[.int .i64 day] h A (n54 day) := fk [] [] [] Tryz.f59
noncomputable def n55 (d:Option Addr) (day:Int):T := .someA d fun a => .loadI .i64 (((a.add 0).add 0).add 3) fun n => .blk (.someA d fun a => .loadM (a.add 2008) fun p => .both (.sem false (Instr.lookup 180 (.map p) (.agg #[.int .i64 day,.int .i64 n]) true) fun v => .unTup v fun l => .unCons l fun v vs => .unAgg v fun l => .popI .i64 l fun n vs_1 => .popI .i64 vs_1 fun n_1 vs_2 => .unNil vs_2 (.unCons vs fun v vs => .unB v fun b => .unNil vs (.nd (.pointer (some (a.add 2008))) (.someA d fun a_1 => .ne (.pointer (some a_1)) (.pointer (some a)) (.nd (.pointer d) (.nd (.bool b) (.nd (.agg #[.int .i64 n,.int .i64 n_1]) (.nd (.tuple #[.agg #[.int .i64 n,.int .i64 n_1],.bool b]) (.nd (.pointer (some (a.add 2008))) (.someA d fun a_2 => .ne (.pointer (some a_2)) (.pointer (some a)) (.nd (.pointer d) (.nd (.bool b) (bif b then .leaf (.retn [.int .i64 n,.int .i64 n_1]) else .leaf (.again [.int .i64 0,.int .i64 0])))))))))))))) (.nd (.agg #[.int .i64 day,.int .i64 n]) (.loadM (a.add 2008) fun p_1 => .ne (.map p_1) (.map p) (.nd (.pointer (some (a.add 2008))) (.someA d fun a_1 => .ne (.pointer (some a_1)) (.pointer (some a)) (.nd (.pointer d) (.sem false (Instr.lookup 180 (.map p) (.agg #[.int .i64 day,.int .i64 n]) true) fun v => .unTup v fun l => .unCons l fun v vs => .unAgg v fun l => .popI .i64 l fun n vs_1 => .popI .i64 vs_1 fun n_1 vs_2 => .unNil vs_2 (.unCons vs fun v vs => .unB v fun b => .unNil vs (.nd (.pointer (some (a.add 2008))) (.someA d fun a_2 => .ne (.pointer (some a_2)) (.pointer (some a)) (.nd (.pointer d) (.nd (.bool b) (bif b then .leaf (.retn [.int .i64 n,.int .i64 n_1]) else .leaf (.again [.int .i64 0,.int .i64 0])))))))))))))) (fun vs => .popI .i64 vs fun n_1 vs => .popI .i64 vs fun n_2 vs => .unNil vs (.someA d fun a => .loadI .i64 (((a.add 0).add 0).add 3) fun n_3 => .loop [.int .i64 n_3,.int .i64 day,.int .i64 day] (fun vs => .popI .i64 vs fun n vs => .popI .i64 vs fun n_4 vs => .popI .i64 vs fun n_5 vs => .unNil vs (bif decide (n_4 > 0) then .someA d fun a => .need (0 <= n_4 /\ n_4 < (↑2001:Int)) (.loadB ((a.add 7).add (n_4.toNat * 1)) fun b => bif b then bif wrap .i64 (n - 1) == 0 then .leaf (.brk [.int .i64 (wrap .i64 (n - 1)),.int .i64 n_4,.int .i64 n_5]) else .leaf (.again [.int .i64 (wrap .i64 (n - 1)),.int .i64 (wrap .i64 (n_4 - 1)),.int .i64 n_5]) else bif n == 0 then .leaf (.brk [.int .i64 n,.int .i64 n_4,.int .i64 n_5]) else .leaf (.again [.int .i64 n,.int .i64 (wrap .i64 (n_4 - 1)),.int .i64 n_5])) else .leaf (.brk [.int .i64 n,.int .i64 n_4,.int .i64 n_5]))) (fun vs => .popI .i64 vs fun n_4 vs => .popI .i64 vs fun n_5 vs => .popI .i64 vs fun n_6 vs => .unNil vs (.someA d fun a => .loadM (a.add 2008) fun p => .sem false (Sem.bind (Instr.mapUpdate 180 (.map p) (.agg #[.int .i64 day,.int .i64 n]) (.agg #[.int .i64 n_5,.int .i64 n_6])) fun __r => pure (.tuple #[])) fun x => .leaf (.ret (.agg #[.int .i64 n_5,.int .i64 n_6])))) (fun vs => .popI .i64 vs fun n vs => .popI .i64 vs fun n vs => .popI .i64 vs fun n vs => .unNil vs (.leaf (.ret (.agg #[.int .i64 n_1,.int .i64 n_2])))) fun x x_1 => .fail)) (fun vs => .popI .i64 vs fun n vs => .popI .i64 vs fun n_1 vs => .unNil vs (.leaf (.ret (.agg #[.int .i64 n,.int .i64 n_1])))) fun x x_1 => .fail
theorem w55 (d:Option Addr) (day:Int):FX X 60 #[.pointer d,.int .i64 day] h A (n55 d day) := fk [4,5,6,8] [⟨0,[(9,.int .i64),(36864,.int .i64),(36865,.int .i64)],[4,5,6],[],[],[]⟩] [⟨5,[(20480,.int .i64),(20481,.int .i64)],[5],[],[],[]⟩] Tryz.f60
noncomputable def n58 (land:Int):T := .new 3 #[.int .i64 land] fun r => .leaf (.ret (.func (Fn.func 103) #[] #[.pointer (some { block := r,off := 0 })]))
theorem w58 (land:Int):FX X 61 #[.int .i64 land] h A (n58 land) := fk [] [] [] Tryz.f61
noncomputable def n59 (item:Int):T := .new 3 #[.int .i64 item] fun r => .leaf (.ret (.func (Fn.func 105) #[] #[.pointer (some { block := r,off := 0 })]))
theorem w59 (item:Int):FX X 62 #[.int .i64 item] h A (n59 item) := fk [] [] [] Tryz.f62
noncomputable def n60 (d:Option Addr) (land item day:Int):T := .call false 60 #[.pointer d,.int .i64 day] fun v => .unAgg v fun l => .popI .i64 l fun n vs => .popI .i64 vs fun n_1 vs => .unNil vs (.someA d fun a => .loadI .i64 (((a.add 0).add 0).add 2) fun n_2 => .call false 99 #[.int .i64 n_2,.int .i64 n,.int .i64 n_1] fun v => .unB v fun b => .np 9 1 (.np 9 0 (.nd (.pointer (some (((a.add 0).add 0).add 2))) (.nd (.pointer (some ((a.add 0).add 0))) (.nd (.pointer (some (a.add 0))) (.someA d fun a_1 => .ne (.pointer (some a_1)) (.pointer (some a)) (.nd (.pointer d) (bif b then .leaf (.ret (.int .i64 1)) else .call false 106 #[.pointer d,.int .i64 land,.int .i64 item] fun v => .each v [.int .i64 0,.int .i64 2] (fun xs vs => .unCons xs fun v vs_1 => .unAgg v fun l => .popI .i64 l fun n_3 vs_2 => .popI .i64 vs_2 fun n_4 vs_3 => .popI .i64 vs_3 fun n_5 vs_4 => .popS vs_4 fun a n_6 c vs_5 => .unNil vs_5 (.unNil vs_1 (.popI .i64 vs fun n_7 vs => .popI .i64 vs fun n_8 vs => .unNil vs (.nd (.int .i64 (if n_4 < n_1 then n_4 else n_1)) (.nd (.int .i64 n_4) (.np 11 1 (.np 11 0 (.nd (.int .i64 n_1) (.np 9 1 (.sem false (Sem.bind (eqGuard BinOp.eql 29 (Operand.tmp 47) (Operand.tmp 49) (.agg #[.int .i64 (if n_3 > n then n_3 else n),.int .i64 (if n_4 < n_1 then n_4 else n_1)]) (.agg #[.int .i64 n_3,.int .i64 n_4])) fun __r => binOp BinOp.eql 29 (.agg #[.int .i64 (if n_3 > n then n_3 else n),.int .i64 (if n_4 < n_1 then n_4 else n_1)]) (.agg #[.int .i64 n_3,.int .i64 n_4])) fun v => .unB v fun b => bif b then .leaf (.retn [.int .i64 1,.int .i64 n_8]) else bif decide ((if n_3 > n then n_3 else n) <= if n_4 < n_1 then n_4 else n_1) then .leaf (.again [.int .i64 n_7,.int .i64 0]) else .leaf (.again [.int .i64 n_7,.int .i64 n_8]))))))))))) (fun vs => .popI .i64 vs fun n vs => .popI .i64 vs fun n vs => .unNil vs (.leaf (.ret (.int .i64 n)))) (fun vs => .popI .i64 vs fun n vs => .popI .i64 vs fun n vs => .unNil vs (.leaf (.ret (.int .i64 n)))) (fun vs => .popI .i64 vs fun n vs => .popI .i64 vs fun n_3 vs => .unNil vs (.leaf (.ret (.int .i64 n)))) fun x x_1 => .fail))))))))
theorem w60 (d:Option Addr) (land item day:Int):FX X 63 #[.pointer d,.int .i64 land,.int .i64 item,.int .i64 day] h A (n60 d land item day) := fk [8,9,10,11] [{ id := 0,slots := [(36864,.int .i64),(45056,.int .i64)],ro := [9],outs := [],ps := [.agg [.int .i64,.int .i64,.int .i64,.slice]] }] [] Tryz.f63
noncomputable def n63 (d:Option Addr) (land day:Int):T := .someA d fun a => .loadI .i64 (((a.add 0).add 0).add 0) fun n => .loop [.slice none 0 0,.int .i64 0] (fun vs => .popS vs fun a n_1 c vs => .popI .i64 vs fun n_2 vs => .unNil vs (bif decide (n_2 < n) then .call false 107 #[.pointer d,.int .i64 land,.int .i64 n_2,.int .i64 day] fun v => .unI .i64 v fun n => .sem false (Instr.buildSlice 76 1 #[(0,.int .i64 n)]) fun v => .unS v fun a_1 n c_1 => .sem false (Builtin.append_ #[76,76] 76 #[.slice a n_1 c,.slice a_1 n c_1]) fun v => .unS v fun a n c => .leaf (.again [.slice a n c,.int .i64 (wrap .i64 (n_2 + 1))]) else .leaf (.brk [.slice a n_1 c,.int .i64 n_2]))) (fun vs => .popS vs fun a n c vs => .popI .i64 vs fun n_1 vs => .unNil vs (.leaf (.ret (.slice a n c)))) (fun vs => .popS vs fun a n c vs => .popI .i64 vs fun n vs => .unNil vs (.leaf (.ret (.slice none 0 0)))) fun x x_1 => .fail
theorem w63 (d:Option Addr) (land day:Int):FX X 64 #[.pointer d,.int .i64 land,.int .i64 day] h A (n63 d land day) := fk [] [⟨0,[(7,.slice),(15,.int .i64)],[],[],[],[]⟩] [] Tryz.f64
noncomputable def n69 (u_0 u_1 u_2 u_3:Int) (u_4p:Option Addr) (u_4n u_4c:Nat) (u_5p:Option Addr) (u_5n u_5c:Nat) (u_6p:Option Addr) (u_6n u_6c:Nat) (z0:Addr):T := .loadS z0 fun p n c => .call false 69 #[.slice p n c,.int .i64 (↑u_5n:Int)] fun v => .unI .i64 v fun n => .leaf (.ret (.int .i64 n))
theorem w69 (u_0 u_1 u_2 u_3:Int) (u_4p:Option Addr) (u_4n u_4c:Nat) (u_5p:Option Addr) (u_5n u_5c:Nat) (u_6p:Option Addr) (u_6n u_6c:Nat) (z0:Addr):FX X 68 #[.agg #[.int .i64 u_0,.int .i64 u_1,.int .i64 u_2,.int .i64 u_3,.slice u_4p u_4n u_4c,.slice u_5p u_5n u_5c,.slice u_6p u_6n u_6c],.pointer (some z0)] h A (n69 u_0 u_1 u_2 u_3 u_4p u_4n u_4c u_5p u_5n u_5c u_6p u_6n u_6c z0) := fk [2] [] [] Tryz.f68
noncomputable def n70 (lp:Option Addr) (ln lc:Nat) (below:Int):T := .new 30 #[.slice lp ln lc] fun r => .new 3 #[.int .i64 below] fun r_1 => .loadS { block := r,off := 0 } fun p n c => .loadS { block := r,off := 0 } fun p_1 n_1 c_1 => .call false 108 #[.slice p n c,.int .i64 (↑n_1:Int),.func (Fn.func 109) #[] #[.pointer (some { block := r_1,off := 0 }),.pointer (some { block := r,off := 0 })]] fun v => .unI .i64 v fun n => .leaf (.ret (.int .i64 n))
theorem w70 (lp:Option Addr) (ln lc:Nat) (below:Int):FX X 69 #[.slice lp ln lc,.int .i64 below] h A (n70 lp ln lc below) := fk [] [] [] Tryz.f69
noncomputable def n71 (u_0 u_1 u_2 u_3:Int) (u_4p:Option Addr) (u_4n u_4c:Nat) (u_5p:Option Addr) (u_5n u_5c:Nat) (u_6p:Option Addr) (u_6n u_6c:Nat) (land day:Int) (papersp:Option Addr) (papersn papersc:Nat) (allp:Option Addr) (alln allc:Nat):T := .loop [.int .i64 0,.int .i64 u_0,.int .i64 u_1,.int .i64 u_2,.int .i64 u_3,.slice u_4p u_4n u_4c,.slice none 0 0,.slice u_6p u_6n u_6c] (fun vs => .popI .i64 vs fun n vs => .popI .i64 vs fun n_1 vs => .popI .i64 vs fun n_2 vs => .popI .i64 vs fun n_3 vs => .popI .i64 vs fun n_4 vs => .popS vs fun a n_5 c vs => .popS vs fun a_1 n_6 c_1 vs => .popS vs fun a_2 n_7 c_2 vs => .unNil vs (bif decide (n < (↑papersn:Int)) then .need (0 <= n /\ n < (↑papersn:Int)) (.someA papersp fun a_3 => .loadI .i64 (a_3.add (n.toNat * 1)) fun n_8 => .need (0 <= n_8 /\ n_8 < (↑u_5n:Int)) (.someA u_5p fun a_4 => .loadI .i64 ((a_4.add (n_8.toNat * 4)).add 0) fun n_9 => .loadI .i64 ((a_4.add (n_8.toNat * 4)).add 1) fun n_10 => .loadI .i64 ((a_4.add (n_8.toNat * 4)).add 2) fun n_11 => .loadS ((a_4.add (n_8.toNat * 4)).add 3) fun p n_12 c_3 => .sem false (Instr.buildSlice 23 1 #[(0,.agg #[.int .i64 n_9,.int .i64 n_10,.int .i64 n_11,.slice p n_12 c_3])]) fun v => .unS v fun a_5 n_13 c_4 => .need (0 <= n_8 /\ n_8 < (↑u_5n:Int)) (.someA u_5p fun a_6 => .ne (.pointer (some (a_6.add (n_8.toNat * 4)))) (.pointer (some (a_4.add (n_8.toNat * 4)))) (.nd (.int .i64 n_8) (.nd (.slice u_5p u_5n u_5c) (.np 5 5 (.nd (.slice a_1 n_6 c_1) (.np 11 5 (.sem false (Builtin.append_ #[23,23] 23 #[.slice a_1 n_6 c_1,.slice a_5 n_13 c_4]) fun v => .unS v fun a_7 n_14 c_5 => .need (0 <= n_8 /\ n_8 < (↑u_5n:Int)) (.someA u_5p fun a_8 => .ne (.pointer (some (a_8.add (n_8.toNat * 4)))) (.pointer (some (a_4.add (n_8.toNat * 4)))) (.nd (.int .i64 n_8) (.nd (.slice u_5p u_5n u_5c) (.np 5 5 (.np 11 5 (.leaf (.again [.int .i64 (wrap .i64 (n + 1)),.int .i64 n_1,.int .i64 n_2,.int .i64 n_3,.int .i64 n_4,.slice a n_5 c,.slice a_7 n_14 c_5,.slice a_2 n_7 c_2])))))))))))))))) else .leaf (.brk [.int .i64 n,.int .i64 n_1,.int .i64 n_2,.int .i64 n_3,.int .i64 n_4,.slice a n_5 c,.slice a_1 n_6 c_1,.slice a_2 n_7 c_2]))) (fun vs => .popI .i64 vs fun n vs => .popI .i64 vs fun n vs => .popI .i64 vs fun n_1 vs => .popI .i64 vs fun n_2 vs => .popI .i64 vs fun n_3 vs => .popS vs fun a n_4 c vs => .popS vs fun a_1 n_5 c_1 vs => .popS vs fun a_2 n_6 c_2 vs => .unNil vs (.call false 58 #[.agg #[.int .i64 n,.int .i64 n_1,.int .i64 n_2,.int .i64 n_3,.slice a n_4 c,.slice a_1 n_5 c_1,.slice a_2 n_6 c_2],.slice none 0 0] fun v => .unTup v fun l => .unCons l fun v vs => .unP v fun a => .unCons vs fun v vs => .unI .i64 v fun n => .unNil vs (bif n != 0 then .leaf (.ret (.bool false)) else .call false 64 #[.pointer a,.int .i64 land,.int .i64 day] fun v => .unS v fun a n c => .loop [.bool false,.int .i64 0] (fun vs => .popB vs fun b vs => .popI .i64 vs fun n_7 vs => .unNil vs (bif decide (n_7 < (↑n:Int)) then .need (0 <= n_7 /\ n_7 < (↑n:Int)) (.someA a fun a => .loadI .i64 (a.add (n_7.toNat * 1)) fun n => .need (0 <= n_7 /\ n_7 < (↑alln:Int)) (.someA allp fun a => .loadI .i64 (a.add (n_7.toNat * 1)) fun n_8 => bif n_8 == 1 then bif n != 1 then .leaf (.retn [.bool false,.int .i64 n_7]) else .leaf (.again [.bool b,.int .i64 (wrap .i64 (n_7 + 1))]) else .leaf (.again [.bool b,.int .i64 (wrap .i64 (n_7 + 1))]))) else .leaf (.brk [.bool b,.int .i64 n_7]))) (fun vs => .popB vs fun b vs => .popI .i64 vs fun n vs => .unNil vs (.leaf (.ret (.bool true)))) (fun vs => .popB vs fun b vs => .popI .i64 vs fun n vs => .unNil vs (.leaf (.ret (.bool b)))) fun x x_1 => .fail))) (fun vs => .popI .i64 vs fun n vs => .popI .i64 vs fun n vs => .popI .i64 vs fun n vs => .popI .i64 vs fun n vs => .popI .i64 vs fun n vs => .popS vs fun a n c vs => .popS vs fun a n c vs => .popS vs fun a n c vs => .unNil vs (.leaf (.ret (.bool false)))) fun x x_1 => .fail
theorem w71 (u_0 u_1 u_2 u_3:Int) (u_4p:Option Addr) (u_4n u_4c:Nat) (u_5p:Option Addr) (u_5n u_5c:Nat) (u_6p:Option Addr) (u_6n u_6c:Nat) (land day:Int) (papersp:Option Addr) (papersn papersc:Nat) (allp:Option Addr) (alln allc:Nat):FX X 66 #[.agg #[.int .i64 u_0,.int .i64 u_1,.int .i64 u_2,.int .i64 u_3,.slice u_4p u_4n u_4c,.slice u_5p u_5n u_5c,.slice u_6p u_6n u_6c],.int .i64 land,.int .i64 day,.slice papersp papersn papersc,.slice allp alln allc] h A (n71 u_0 u_1 u_2 u_3 u_4p u_4n u_4c u_5p u_5n u_5c u_6p u_6n u_6c land day papersp papersn papersc allp alln allc) := fk [5,11] [⟨0,[(22,.int .i64),(49152,.int .i64),(49153,.int .i64),(49154,.int .i64),(49155,.int .i64),(49156,.slice),(49157,.slice),(49158,.slice)],[5],[],[],[]⟩,⟨2,[(10,.bool),(49,.int .i64)],[5,11],[],[],[]⟩] [] Tryz.f66
noncomputable def n74 (z0 z1 z2 z3 z4 z5:Addr):T := .sem false (Instr.buildSlice 30 0 #[]) fun v => .unS v fun a n c => .loadS (z0.add 5) fun p n_1 c_1 => .loop [.slice a n c,.int .i64 0] (fun vs => .popS vs fun a n c vs => .popI .i64 vs fun n_2 vs => .unNil vs (bif decide (n_2 < (↑n_1:Int)) then .loadI .i64 z1 fun n_3 => .need (0 <= n_2) (bif wrap .i64 (↑(BitVec.toNat (BitVec.ofInt 64 (Int.fdiv n_3 (2 ^ min (n_2.toNat) 64)) &&& BitVec.ofInt 64 1)):Int) == 1 then .sem false (Instr.buildSlice 30 1 #[(0,.int .i64 n_2)]) fun v => .unS v fun a_1 n_4 c_2 => .sem false (Builtin.append_ #[30,30] 30 #[.slice a n c,.slice a_1 n_4 c_2]) fun v => .unS v fun a n c => .leaf (.again [.slice a n c,.int .i64 (wrap .i64 (n_2 + 1))]) else .leaf (.again [.slice a n c,.int .i64 (wrap .i64 (n_2 + 1))])) else .leaf (.brk [.slice a n c,.int .i64 n_2]))) (fun vs => .popS vs fun a n c vs => .popI .i64 vs fun n_2 vs => .unNil vs (.loadI .i64 (z0.add 0) fun n_3 => .loadI .i64 (z0.add 1) fun n_4 => .loadI .i64 (z0.add 2) fun n_5 => .loadI .i64 (z0.add 3) fun n_6 => .loadS (z0.add 4) fun p n_7 c_2 => .loadS (z0.add 5) fun p_1 n_8 c_3 => .loadS (z0.add 6) fun p_2 n_9 c_4 => .loadI .i64 z2 fun n_10 => .loadI .i64 z3 fun n_11 => .loadS z4 fun p_3 n_12 c_5 => .call false 66 #[.agg #[.int .i64 n_3,.int .i64 n_4,.int .i64 n_5,.int .i64 n_6,.slice p n_7 c_2,.slice p_1 n_8 c_3,.slice p_2 n_9 c_4],.int .i64 n_10,.int .i64 n_11,.slice a n c,.slice p_3 n_12 c_5] fun v => .unB v fun b => bif !b then .loadC z5 fun p => .comm true #[{ chan := .chan p,send := some (.slice none 0 0),zero := .tuple #[] }] CommShape.send fun v => .leaf (.ret (.tuple #[])) else .loadC z5 fun p => .comm true #[{ chan := .chan p,send := some (.slice a n c),zero := .tuple #[] }] CommShape.send fun v => .leaf (.ret (.tuple #[])))) (fun vs => .popS vs fun a n c vs => .popI .i64 vs fun n vs => .unNil vs (.leaf (.ret (.tuple #[])))) fun x x_1 => .fail
theorem w74 (z0 z1 z2 z3 z4 z5:Addr) (hX:XOK X) (hw:(n74 z0 z1 z2 z3 z4 z5).wp X Tryz.prog (retQ A) h):FWK X Tryz.prog .deferred 65 #[.pointer (some z0),.pointer (some z1),.pointer (some z2),.pointer (some z3),.pointer (some z4),.pointer (some z5)] h A := fwk_neat (show ftree ({ P := Tryz.prog,priv := [],loops := [{ id := 0,slots := [(6,.slice),(12,.int .i64)],ro := [],outs := [] }],joins := [],kd := .deferred }) Tryz.f65 [.pointer (some z0),.pointer (some z1),.pointer (some z2),.pointer (some z3),.pointer (some z4),.pointer (some z5)] = n74 z0 z1 z2 z3 z4 z5 by kernel_rfl) (by simp) (by kernel_rfl) (by kernel_rfl) hX hw
noncomputable def n75 (ap:Option Addr) (an ac:Nat) (bp:Option Addr) (bn bc:Nat):T := bif (↑an:Int) != (↑bn:Int) then .leaf (.ret (.int .i64 (wrap .i64 ((↑an:Int) - (↑bn:Int))))) else .call false 79 #[.slice ap an ac,.slice bp bn bc] fun v => .unI .i64 v fun n => .leaf (.ret (.int .i64 n))
theorem w75 (ap:Option Addr) (an ac:Nat) (bp:Option Addr) (bn bc:Nat):FX X 67 #[.slice ap an ac,.slice bp bn bc] h A (n75 ap an ac bp bn bc) := fk [] [] [] Tryz.f67
noncomputable def n79 (sp:Option Addr) (sn sc:Nat) (f:Value):T := .call false 142 #[.slice sp sn sc,f] fun v => .unI .i64 v fun n => .leaf (.ret (.bool (decide (n >= 0))))
theorem w79 (sp:Option Addr) (sn sc:Nat) (f:Value):FX X 97 #[.slice sp sn sc,f] h A (n79 sp sn sc f) := fk [] [] [] Tryz.f97
noncomputable def n80 (x_0 x_1:Int) (z0:Addr):T := .loadI .i64 z0 fun n => .call false 99 #[.int .i64 n,.int .i64 x_0,.int .i64 x_1] fun v => .unB v fun b => .leaf (.ret (.bool b))
theorem w80 (x_0 x_1:Int) (z0:Addr):FX X 98 #[.agg #[.int .i64 x_0,.int .i64 x_1],.pointer (some z0)] h A (n80 x_0 x_1 z0) := fk [2] [] [] Tryz.f98
noncomputable def n81 (n first last:Int):T := bif decide (first <= n) then .leaf (.ret (.bool (decide (n <= last)))) else .leaf (.ret (.bool false))
theorem w81 (n first last:Int):FX X 99 #[.int .i64 n,.int .i64 first,.int .i64 last] h A (n81 n first last) := fk [] [] [] Tryz.f99
noncomputable def n82 (a0_0 a0_1 a0_2 a0_3:Int) (a0_4p:Option Addr) (a0_4n a0_4c:Nat) (a0_5p:Option Addr) (a0_5n a0_5c:Nat) (a0_6p:Option Addr) (a0_6n a0_6c:Nat) (z0:Addr):T := .loadI .i64 z0 fun n => .call false 102 #[.int .i64 n] fun v => .unB v fun b => .call false 101 #[.bool !b,.int .i64 1] fun v => .unI .i64 v fun n => .leaf (.ret (.int .i64 n))
theorem w82 (a0_0 a0_1 a0_2 a0_3:Int) (a0_4p:Option Addr) (a0_4n a0_4c:Nat) (a0_5p:Option Addr) (a0_5n a0_5c:Nat) (a0_6p:Option Addr) (a0_6n a0_6c:Nat) (z0:Addr):FX X 100 #[.agg #[.int .i64 a0_0,.int .i64 a0_1,.int .i64 a0_2,.int .i64 a0_3,.slice a0_4p a0_4n a0_4c,.slice a0_5p a0_5n a0_5c,.slice a0_6p a0_6n a0_6c],.pointer (some z0)] h A (n82 a0_0 a0_1 a0_2 a0_3 a0_4p a0_4n a0_4c a0_5p a0_5n a0_5c a0_6p a0_6n a0_6c z0) := fk [2] [] [] Tryz.f100
noncomputable def n83 (is:Bool) (f:Int):T := bif is then .leaf (.ret (.int .i64 f)) else .leaf (.ret (.int .i64 0))
theorem w83 (is:Bool) (f:Int):FX X 101 #[.bool is,.int .i64 f] h A (n83 is f) := fk [] [] [] Tryz.f101
noncomputable def n84 (n:Int):T := .call false 99 #[.int .i64 n,.int .i64 0,.int .i64 2000] fun v => .unB v fun b => .leaf (.ret (.bool b))
theorem w84 (n:Int):FX X 102 #[.int .i64 n] h A (n84 n) := fk [] [] [] Tryz.f102
noncomputable def n85 (u_0 u_1 u_2 u_3:Int) (u_4p:Option Addr) (u_4n u_4c:Nat) (u_5p:Option Addr) (u_5n u_5c:Nat) (u_6p:Option Addr) (u_6n u_6c:Nat) (z0:Addr):T := .loadI .i64 z0 fun n => .call false 104 #[.agg #[.int .i64 u_0,.int .i64 u_1,.int .i64 u_2,.int .i64 u_3,.slice u_4p u_4n u_4c,.slice u_5p u_5n u_5c,.slice u_6p u_6n u_6c],.int .i64 n] fun v => .unB v fun b => .call false 101 #[.bool !b,.int .i64 6] fun v => .unI .i64 v fun n => .leaf (.ret (.int .i64 n))
theorem w85 (u_0 u_1 u_2 u_3:Int) (u_4p:Option Addr) (u_4n u_4c:Nat) (u_5p:Option Addr) (u_5n u_5c:Nat) (u_6p:Option Addr) (u_6n u_6c:Nat) (z0:Addr):FX X 103 #[.agg #[.int .i64 u_0,.int .i64 u_1,.int .i64 u_2,.int .i64 u_3,.slice u_4p u_4n u_4c,.slice u_5p u_5n u_5c,.slice u_6p u_6n u_6c],.pointer (some z0)] h A (n85 u_0 u_1 u_2 u_3 u_4p u_4n u_4c u_5p u_5n u_5c u_6p u_6n u_6c z0) := fk [2] [] [] Tryz.f103
noncomputable def n86 (u_0 u_1 u_2 u_3:Int) (u_4p:Option Addr) (u_4n u_4c:Nat) (u_5p:Option Addr) (u_5n u_5c:Nat) (u_6p:Option Addr) (u_6n u_6c:Nat) (n:Int):T := .call false 99 #[.int .i64 n,.int .i64 0,.int .i64 (wrap .i64 (u_1 - 1))] fun v => .unB v fun b => .leaf (.ret (.bool b))
theorem w86 (u_0 u_1 u_2 u_3:Int) (u_4p:Option Addr) (u_4n u_4c:Nat) (u_5p:Option Addr) (u_5n u_5c:Nat) (u_6p:Option Addr) (u_6n u_6c:Nat) (n:Int):FX X 104 #[.agg #[.int .i64 u_0,.int .i64 u_1,.int .i64 u_2,.int .i64 u_3,.slice u_4p u_4n u_4c,.slice u_5p u_5n u_5c,.slice u_6p u_6n u_6c],.int .i64 n] h A (n86 u_0 u_1 u_2 u_3 u_4p u_4n u_4c u_5p u_5n u_5c u_6p u_6n u_6c n) := fk [2] [] [] Tryz.f104
noncomputable def n87 (u_0 u_1 u_2 u_3:Int) (u_4p:Option Addr) (u_4n u_4c:Nat) (u_5p:Option Addr) (u_5n u_5c:Nat) (u_6p:Option Addr) (u_6n u_6c:Nat) (z0:Addr):T := .loadI .i64 z0 fun n => .call false 99 #[.int .i64 n,.int .i64 0,.int .i64 (wrap .i64 (u_0 - 1))] fun v => .unB v fun b => .call false 101 #[.bool !b,.int .i64 6] fun v => .unI .i64 v fun n => .leaf (.ret (.int .i64 n))
theorem w87 (u_0 u_1 u_2 u_3:Int) (u_4p:Option Addr) (u_4n u_4c:Nat) (u_5p:Option Addr) (u_5n u_5c:Nat) (u_6p:Option Addr) (u_6n u_6c:Nat) (z0:Addr):FX X 105 #[.agg #[.int .i64 u_0,.int .i64 u_1,.int .i64 u_2,.int .i64 u_3,.slice u_4p u_4n u_4c,.slice u_5p u_5n u_5c,.slice u_6p u_6n u_6c],.pointer (some z0)] h A (n87 u_0 u_1 u_2 u_3 u_4p u_4n u_4c u_5p u_5n u_5c u_6p u_6n u_6c z0) := fk [2] [] [] Tryz.f105
noncomputable def n88 (d:Option Addr) (land item:Int):T := .new 121 #[.pointer d] fun r => .new 3 #[.int .i64 land] fun r_1 => .new 3 #[.int .i64 item] fun r_2 => .leaf (.ret (.func (Fn.func 143) #[] #[.pointer (some { block := r,off := 0 }),.pointer (some { block := r_1,off := 0 }),.pointer (some { block := r_2,off := 0 })]))
theorem w88 (d:Option Addr) (land item:Int):FX X 106 #[.pointer d,.int .i64 land,.int .i64 item] h A (n88 d land item) := fk [] [] [] Tryz.f106
noncomputable def n91 (d:Option Addr) (land item day:Int):T := .call false 144 #[.pointer d,.int .i64 land,.int .i64 item,.int .i64 day] fun v => .unS v fun a n c => .loop [.bool true,.int .i64 0] (fun vs => .popB vs fun b vs => .popI .i64 vs fun n_1 vs => .unNil vs (bif decide (n_1 < (↑n:Int)) then .need (0 <= n_1 /\ n_1 < (↑n:Int)) (.someA a fun a => .loadI .i64 ((a.add (n_1.toNat * 3)).add 0) fun n => .loadI .i64 ((a.add (n_1.toNat * 3)).add 1) fun n_2 => .loadS ((a.add (n_1.toNat * 3)).add 2) fun p n_3 c => .call false 63 #[.pointer d,.int .i64 land,.int .i64 item,.int .i64 n] fun v => .unI .i64 v fun n => bif n != 1 then .leaf (.brk [.bool false,.int .i64 n_1]) else .leaf (.again [.bool b,.int .i64 (wrap .i64 (n_1 + 1))])) else .leaf (.brk [.bool b,.int .i64 n_1]))) (fun vs => .popB vs fun b vs => .popI .i64 vs fun n_1 vs => .unNil vs (bif b then .leaf (.ret (.int .i64 1)) else .call false 145 #[.pointer d,.int .i64 land,.int .i64 item,.slice a n c] fun v => .unB v fun b => bif b then .leaf (.ret (.int .i64 2)) else .leaf (.ret (.int .i64 0)))) (fun vs => .popB vs fun b vs => .popI .i64 vs fun n vs => .unNil vs (.leaf (.ret (.int .i64 0)))) fun x x_1 => .fail
theorem w91 (d:Option Addr) (land item day:Int):FX X 107 #[.pointer d,.int .i64 land,.int .i64 item,.int .i64 day] h A (n91 d land item day) := fk [12] [⟨0,[(10,.bool),(20,.int .i64)],[],[],[],[]⟩] [] Tryz.f107
noncomputable def n94 (lp:Option Addr) (ln lc:Nat) (most:Int) (flaw:Value):T := bif decide ((↑ln:Int) > most) then .leaf (.ret (.int .i64 2)) else .loop [.int .i64 0,.int .i64 0] (fun vs => .popI .i64 vs fun n vs => .popI .i64 vs fun n_1 vs => .unNil vs (bif decide (n_1 < (↑ln:Int)) then .need (0 <= n_1 /\ n_1 < (↑ln:Int)) (.someA lp fun a => .loadI .i64 (a.add (n_1.toNat * 1)) fun n_2 => .callv false flaw #[.int .i64 n_1,.int .i64 n_2] fun v => .unI .i64 v fun n_3 => bif n_3 != 0 then .leaf (.retn [.int .i64 n_3,.int .i64 n_1]) else .leaf (.again [.int .i64 n,.int .i64 (wrap .i64 (n_1 + 1))])) else .leaf (.brk [.int .i64 n,.int .i64 n_1]))) (fun vs => .popI .i64 vs fun n vs => .popI .i64 vs fun n vs => .unNil vs (.leaf (.ret (.int .i64 0)))) (fun vs => .popI .i64 vs fun n vs => .popI .i64 vs fun n_1 vs => .unNil vs (.leaf (.ret (.int .i64 n)))) fun x x_1 => .fail
theorem w94 (lp:Option Addr) (ln lc:Nat) (most:Int) (flaw:Value):FX X 108 #[.slice lp ln lc,.int .i64 most,flaw] h A (n94 lp ln lc most flaw) := fk [] [⟨0,[(6,.int .i64),(16,.int .i64)],[],[],[],[]⟩] [] Tryz.f108
noncomputable def n95 (i n:Int) (z0 z1:Addr):T := .loadI .i64 z0 fun n_1 => .call false 99 #[.int .i64 n,.int .i64 0,.int .i64 (wrap .i64 (n_1 - 1))] fun v => .unB v fun b => .call false 101 #[.bool !b,.int .i64 6] fun v => .unI .i64 v fun n_2 => bif decide (i > 0) then .loadS z1 fun p n_3 c => .need ((0 <= if wrap .i64 (i - 1) > 0 then wrap .i64 (i - 1) else 0) /\ (if wrap .i64 (i - 1) > 0 then wrap .i64 (i - 1) else 0) < (↑n_3:Int)) (.someA p fun a => .loadI .i64 (a.add ((if wrap .i64 (i - 1) > 0 then wrap .i64 (i - 1) else 0).toNat * 1)) fun n_4 => .call false 101 #[.bool (decide (n <= n_4)),.int .i64 7] fun v => .unI .i64 v fun n => .sem false (Instr.buildSlice 247 2 #[(0,.int .i64 n_2),(1,.int .i64 n)]) fun v => .unS v fun a n c => .call false 110 #[.slice a n c] fun v => .unI .i64 v fun n => .leaf (.ret (.int .i64 n))) else .call false 101 #[.bool false,.int .i64 7] fun v => .unI .i64 v fun n => .sem false (Instr.buildSlice 247 2 #[(0,.int .i64 n_2),(1,.int .i64 n)]) fun v => .unS v fun a n c => .call false 110 #[.slice a n c] fun v => .unI .i64 v fun n => .leaf (.ret (.int .i64 n))
theorem w95 (i n:Int) (z0 z1:Addr):FX X 109 #[.int .i64 i,.int .i64 n,.pointer (some z0),.pointer (some z1)] h A (n95 i n z0 z1) := fk [] [] [] Tryz.f109
noncomputable def n96 (flawsp:Option Addr) (flawsn flawsc:Nat):T := .loop [.int .i64 0,.int .i64 0] (fun vs => .popI .i64 vs fun n vs => .popI .i64 vs fun n_1 vs => .unNil vs (bif decide (n_1 < (↑flawsn:Int)) then .need (0 <= n_1 /\ n_1 < (↑flawsn:Int)) (.someA flawsp fun a => .loadI .i64 (a.add (n_1.toNat * 1)) fun n_2 => bif n_2 != 0 then .leaf (.retn [.int .i64 n_2,.int .i64 n_1]) else .leaf (.again [.int .i64 n,.int .i64 (wrap .i64 (n_1 + 1))])) else .leaf (.brk [.int .i64 n,.int .i64 n_1]))) (fun vs => .popI .i64 vs fun n vs => .popI .i64 vs fun n vs => .unNil vs (.leaf (.ret (.int .i64 0)))) (fun vs => .popI .i64 vs fun n vs => .popI .i64 vs fun n_1 vs => .unNil vs (.leaf (.ret (.int .i64 n)))) fun x x_1 => .fail
theorem w96 (flawsp:Option Addr) (flawsn flawsc:Nat):FX X 110 #[.slice flawsp flawsn flawsc] h A (n96 flawsp flawsn flawsc) := fk [] [⟨0,[(2,.int .i64),(7,.int .i64)],[],[],[],[]⟩] [] Tryz.f110
noncomputable def n98 (sp:Option Addr) (sn sc:Nat) (f:Value):T := .loop [.int .i64 0,.int .i64 0] (fun vs => .popI .i64 vs fun n vs => .popI .i64 vs fun n_1 vs => .unNil vs (bif decide (n_1 < (↑sn:Int)) then .need (0 <= n_1 /\ n_1 < (↑sn:Int)) (.someA sp fun a => .loadI .i64 ((a.add (n_1.toNat * 2)).add 0) fun n_2 => .loadI .i64 ((a.add (n_1.toNat * 2)).add 1) fun n_3 => .callv false f #[.agg #[.int .i64 n_2,.int .i64 n_3]] fun v => .unB v fun b => bif b then .leaf (.retn [.int .i64 n_1,.int .i64 n_1]) else .leaf (.again [.int .i64 n,.int .i64 (wrap .i64 (n_1 + 1))])) else .leaf (.brk [.int .i64 n,.int .i64 n_1]))) (fun vs => .popI .i64 vs fun n vs => .popI .i64 vs fun n vs => .unNil vs (.leaf (.ret (.int .i64 (-1))))) (fun vs => .popI .i64 vs fun n vs => .popI .i64 vs fun n_1 vs => .unNil vs (.leaf (.ret (.int .i64 n)))) fun x x_1 => .fail
theorem w98 (sp:Option Addr) (sn sc:Nat) (f:Value):FX X 142 #[.slice sp sn sc,f] h A (n98 sp sn sc f) := fk [] [⟨0,[(4,.int .i64),(8,.int .i64)],[],[],[],[]⟩] [] Tryz.f142
noncomputable def n99 (yield:Value) (z0 z1 z2:Addr):T := .loadP z0 fun p => .someA p fun a => .loadS (((a.add 0).add 0).add 5) fun p n c => .loop [.int .i64 0] (fun vs => .popI .i64 vs fun n_1 vs => .unNil vs (bif decide (n_1 < (↑n:Int)) then .need (0 <= n_1 /\ n_1 < (↑n:Int)) (.someA p fun a => .loadI .i64 ((a.add (n_1.toNat * 4)).add 0) fun n => .loadI .i64 ((a.add (n_1.toNat * 4)).add 1) fun n_2 => .loadI .i64 ((a.add (n_1.toNat * 4)).add 2) fun n_3 => .loadS ((a.add (n_1.toNat * 4)).add 3) fun p n_4 c => .loadI .i64 z1 fun n_5 => bif n_3 == n_5 then .loadI .i64 z2 fun n_6 => .call false 125 #[.slice p n_4 c,.int .i64 n_6] fun v => .unB v fun b => bif b then .callv false yield #[.agg #[.int .i64 n,.int .i64 n_2,.int .i64 n_3,.slice p n_4 c]] fun v => .unB v fun b => bif !b then .leaf (.retn [.int .i64 n_1]) else .leaf (.again [.int .i64 (wrap .i64 (n_1 + 1))]) else .leaf (.again [.int .i64 (wrap .i64 (n_1 + 1))]) else .leaf (.again [.int .i64 (wrap .i64 (n_1 + 1))])) else .leaf (.brk [.int .i64 n_1]))) (fun vs => .popI .i64 vs fun n vs => .unNil vs (.leaf (.ret (.tuple #[])))) (fun vs => .popI .i64 vs fun n vs => .unNil vs (.leaf (.ret (.tuple #[])))) fun x x_1 => .fail
theorem w99 (yield:Value) (z0 z1 z2:Addr):FX X 143 #[yield,.pointer (some z0),.pointer (some z1),.pointer (some z2)] h A (n99 yield z0 z1 z2) := fk [6] [⟨0,[(14,.int .i64)],[],[],[],[]⟩] [] Tryz.f143
noncomputable def n101 (d:Option Addr) (land item day:Int):T := .someA d fun a => .loadS (((a.add 0).add 0).add 6) fun p n c => .loop [.slice none 0 0,.int .i64 0] (fun vs => .popS vs fun a n_1 c vs => .popI .i64 vs fun n_2 vs => .unNil vs (bif decide (n_2 < (↑n:Int)) then .need (0 <= n_2 /\ n_2 < (↑n:Int)) (.someA p fun a_1 => .loadI .i64 ((a_1.add (n_2.toNat * 3)).add 0) fun n => .loadI .i64 ((a_1.add (n_2.toNat * 3)).add 1) fun n_3 => .loadS ((a_1.add (n_2.toNat * 3)).add 2) fun p n_4 c_1 => bif n_3 == land then bif decide (n <= day) then .call false 125 #[.slice p n_4 c_1,.int .i64 item] fun v => .unB v fun b => bif b then .sem false (Instr.buildSlice 24 1 #[(0,.agg #[.int .i64 n,.int .i64 n_3,.slice p n_4 c_1])]) fun v => .unS v fun a_2 n c_2 => .sem false (Builtin.append_ #[24,24] 24 #[.slice a n_1 c,.slice a_2 n c_2]) fun v => .unS v fun a n c => .leaf (.again [.slice a n c,.int .i64 (wrap .i64 (n_2 + 1))]) else .leaf (.again [.slice a n_1 c,.int .i64 (wrap .i64 (n_2 + 1))]) else .leaf (.again [.slice a n_1 c,.int .i64 (wrap .i64 (n_2 + 1))]) else .leaf (.again [.slice a n_1 c,.int .i64 (wrap .i64 (n_2 + 1))])) else .leaf (.brk [.slice a n_1 c,.int .i64 n_2]))) (fun vs => .popS vs fun a n c vs => .popI .i64 vs fun n_1 vs => .unNil vs (.leaf (.ret (.slice a n c)))) (fun vs => .popS vs fun a n c vs => .popI .i64 vs fun n vs => .unNil vs (.leaf (.ret (.slice none 0 0)))) fun x x_1 => .fail
theorem w101 (d:Option Addr) (land item day:Int):FX X 144 #[.pointer d,.int .i64 land,.int .i64 item,.int .i64 day] h A (n101 d land item day) := fk [11] [⟨0,[(9,.slice),(19,.int .i64)],[],[],[],[]⟩] [] Tryz.f144
noncomputable def n102 (d:Option Addr) (land item:Int) (lp:Option Addr) (ln lc:Nat):T := .need (0 <= (↑ln:Int)) (.blk (.someA d fun a => .loadI .i64 (((a.add 0).add 0).add 2) fun n => .both (.sem false (Instr.makeMap 163 none) fun v => .unM v fun a_1 => .loadI .i64 (((a.add 0).add 0).add 2) fun n_1 => .ne (.int .i64 n_1) (.int .i64 n) (.nd (.pointer (some (((a.add 0).add 0).add 2))) (.nd (.pointer (some ((a.add 0).add 0))) (.nd (.pointer (some (a.add 0))) (.someA d fun a_2 => .ne (.pointer (some a_2)) (.pointer (some a)) (.nd (.pointer d) (.nd (.slice lp ln lc) (.nd (.pointer d) (.both (.call false 183 #[.pointer d,.slice lp ln lc,.int .i64 n] fun v => .unI .i64 v fun n => .nd (.pointer (some (((a.add 0).add 0).add 2))) (.nd (.pointer (some ((a.add 0).add 0))) (.nd (.pointer (some (a.add 0))) (.someA d fun a_3 => .ne (.pointer (some a_3)) (.pointer (some a)) (.nd (.pointer d) (.both (.sem false (Sem.bind (Instr.mapUpdate 163 (.map a_1) (.int .i64 n) (.bool true)) fun __r => pure (.tuple #[])) fun x => .nd (.pointer (some (((a.add 0).add 0).add 2))) (.nd (.pointer (some ((a.add 0).add 0))) (.nd (.pointer (some (a.add 0))) (.someA d fun a_4 => .ne (.pointer (some a_4)) (.pointer (some a)) (.nd (.pointer d) (.nd (.map a_1) (.nd (.pointer (some (((a.add 0).add 0).add 2))) (.nd (.pointer (some ((a.add 0).add 0))) (.nd (.pointer (some (a.add 0))) (.someA d fun a_5 => .ne (.pointer (some a_5)) (.pointer (some a)) (.nd (.pointer d) (.leaf (.again [.map a_1]))))))))))))) (.nd (.pointer (some (((a.add 0).add 0).add 2))) (.nd (.pointer (some ((a.add 0).add 0))) (.nd (.pointer (some (a.add 0))) (.someA d fun a_4 => .ne (.pointer (some a_4)) (.pointer (some a)) (.nd (.pointer d) (.sem false (Sem.bind (Instr.mapUpdate 163 (.map a_1) (.int .i64 n) (.bool true)) fun __r => pure (.tuple #[])) fun x => .nd (.pointer (some (((a.add 0).add 0).add 2))) (.nd (.pointer (some ((a.add 0).add 0))) (.nd (.pointer (some (a.add 0))) (.someA d fun a_5 => .ne (.pointer (some a_5)) (.pointer (some a)) (.nd (.pointer d) (.leaf (.again [.map a_1])))))))))))))))))) (.loadI .i64 (((a.add 0).add 0).add 2) fun n_2 => .ne (.int .i64 n_2) (.int .i64 n) (.nd (.pointer (some (((a.add 0).add 0).add 2))) (.nd (.pointer (some ((a.add 0).add 0))) (.nd (.pointer (some (a.add 0))) (.someA d fun a_3 => .ne (.pointer (some a_3)) (.pointer (some a)) (.nd (.pointer d) (.nd (.slice lp ln lc) (.nd (.pointer d) (.call false 183 #[.pointer d,.slice lp ln lc,.int .i64 n] fun v => .unI .i64 v fun n => .nd (.pointer (some (((a.add 0).add 0).add 2))) (.nd (.pointer (some ((a.add 0).add 0))) (.nd (.pointer (some (a.add 0))) (.someA d fun a_4 => .ne (.pointer (some a_4)) (.pointer (some a)) (.nd (.pointer d) (.sem false (Sem.bind (Instr.mapUpdate 163 (.map a_1) (.int .i64 n) (.bool true)) fun __r => pure (.tuple #[])) fun x => .nd (.pointer (some (((a.add 0).add 0).add 2))) (.nd (.pointer (some ((a.add 0).add 0))) (.nd (.pointer (some (a.add 0))) (.someA d fun a_5 => .ne (.pointer (some a_5)) (.pointer (some a)) (.nd (.pointer d) (.leaf (.again [.map a_1]))))))))))))))))))))))))))))) (.both (.call false 183 #[.pointer d,.slice lp ln lc,.int .i64 n] fun v => .unI .i64 v fun n => .nd (.pointer (some (((a.add 0).add 0).add 2))) (.nd (.pointer (some ((a.add 0).add 0))) (.nd (.pointer (some (a.add 0))) (.someA d fun a_1 => .ne (.pointer (some a_1)) (.pointer (some a)) (.nd (.pointer d) (.both (.sem false (Instr.makeMap 163 none) fun v => .unM v fun a_2 => .nd (.pointer (some (((a.add 0).add 0).add 2))) (.nd (.pointer (some ((a.add 0).add 0))) (.nd (.pointer (some (a.add 0))) (.someA d fun a_3 => .ne (.pointer (some a_3)) (.pointer (some a)) (.nd (.pointer d) (.both (.sem false (Sem.bind (Instr.mapUpdate 163 (.map a_2) (.int .i64 n) (.bool true)) fun __r => pure (.tuple #[])) fun x => .nd (.pointer (some (((a.add 0).add 0).add 2))) (.nd (.pointer (some ((a.add 0).add 0))) (.nd (.pointer (some (a.add 0))) (.someA d fun a_4 => .ne (.pointer (some a_4)) (.pointer (some a)) (.nd (.pointer d) (.nd (.map a_2) (.nd (.pointer (some (((a.add 0).add 0).add 2))) (.nd (.pointer (some ((a.add 0).add 0))) (.nd (.pointer (some (a.add 0))) (.someA d fun a_5 => .ne (.pointer (some a_5)) (.pointer (some a)) (.nd (.pointer d) (.leaf (.again [.map a_2]))))))))))))) (.nd (.pointer (some (((a.add 0).add 0).add 2))) (.nd (.pointer (some ((a.add 0).add 0))) (.nd (.pointer (some (a.add 0))) (.someA d fun a_4 => .ne (.pointer (some a_4)) (.pointer (some a)) (.nd (.pointer d) (.sem false (Sem.bind (Instr.mapUpdate 163 (.map a_2) (.int .i64 n) (.bool true)) fun __r => pure (.tuple #[])) fun x => .nd (.pointer (some (((a.add 0).add 0).add 2))) (.nd (.pointer (some ((a.add 0).add 0))) (.nd (.pointer (some (a.add 0))) (.someA d fun a_5 => .ne (.pointer (some a_5)) (.pointer (some a)) (.nd (.pointer d) (.leaf (.again [.map a_2])))))))))))))))))) (.nd (.pointer (some (((a.add 0).add 0).add 2))) (.nd (.pointer (some ((a.add 0).add 0))) (.nd (.pointer (some (a.add 0))) (.someA d fun a_2 => .ne (.pointer (some a_2)) (.pointer (some a)) (.nd (.pointer d) (.sem false (Instr.makeMap 163 none) fun v => .unM v fun a_3 => .nd (.pointer (some (((a.add 0).add 0).add 2))) (.nd (.pointer (some ((a.add 0).add 0))) (.nd (.pointer (some (a.add 0))) (.someA d fun a_4 => .ne (.pointer (some a_4)) (.pointer (some a)) (.nd (.pointer d) (.sem false (Sem.bind (Instr.mapUpdate 163 (.map a_3) (.int .i64 n) (.bool true)) fun __r => pure (.tuple #[])) fun x => .nd (.pointer (some (((a.add 0).add 0).add 2))) (.nd (.pointer (some ((a.add 0).add 0))) (.nd (.pointer (some (a.add 0))) (.someA d fun a_5 => .ne (.pointer (some a_5)) (.pointer (some a)) (.nd (.pointer d) (.leaf (.again [.map a_3]))))))))))))))))))))))) (.loadI .i64 (((a.add 0).add 0).add 2) fun n_1 => .ne (.int .i64 n_1) (.int .i64 n) (.nd (.pointer (some (((a.add 0).add 0).add 2))) (.nd (.pointer (some ((a.add 0).add 0))) (.nd (.pointer (some (a.add 0))) (.someA d fun a_1 => .ne (.pointer (some a_1)) (.pointer (some a)) (.nd (.pointer d) (.nd (.slice lp ln lc) (.nd (.pointer d) (.both (.sem false (Instr.makeMap 163 none) fun v => .unM v fun a_2 => .loadI .i64 (((a.add 0).add 0).add 2) fun n_2 => .ne (.int .i64 n_2) (.int .i64 n) (.nd (.pointer (some (((a.add 0).add 0).add 2))) (.nd (.pointer (some ((a.add 0).add 0))) (.nd (.pointer (some (a.add 0))) (.someA d fun a_3 => .ne (.pointer (some a_3)) (.pointer (some a)) (.nd (.pointer d) (.nd (.slice lp ln lc) (.nd (.pointer d) (.call false 183 #[.pointer d,.slice lp ln lc,.int .i64 n] fun v => .unI .i64 v fun n => .nd (.pointer (some (((a.add 0).add 0).add 2))) (.nd (.pointer (some ((a.add 0).add 0))) (.nd (.pointer (some (a.add 0))) (.someA d fun a_4 => .ne (.pointer (some a_4)) (.pointer (some a)) (.nd (.pointer d) (.sem false (Sem.bind (Instr.mapUpdate 163 (.map a_2) (.int .i64 n) (.bool true)) fun __r => pure (.tuple #[])) fun x => .nd (.pointer (some (((a.add 0).add 0).add 2))) (.nd (.pointer (some ((a.add 0).add 0))) (.nd (.pointer (some (a.add 0))) (.someA d fun a_5 => .ne (.pointer (some a_5)) (.pointer (some a)) (.nd (.pointer d) (.leaf (.again [.map a_2])))))))))))))))))))) (.call false 183 #[.pointer d,.slice lp ln lc,.int .i64 n] fun v => .unI .i64 v fun n => .nd (.pointer (some (((a.add 0).add 0).add 2))) (.nd (.pointer (some ((a.add 0).add 0))) (.nd (.pointer (some (a.add 0))) (.someA d fun a_2 => .ne (.pointer (some a_2)) (.pointer (some a)) (.nd (.pointer d) (.sem false (Instr.makeMap 163 none) fun v => .unM v fun a_3 => .nd (.pointer (some (((a.add 0).add 0).add 2))) (.nd (.pointer (some ((a.add 0).add 0))) (.nd (.pointer (some (a.add 0))) (.someA d fun a_4 => .ne (.pointer (some a_4)) (.pointer (some a)) (.nd (.pointer d) (.sem false (Sem.bind (Instr.mapUpdate 163 (.map a_3) (.int .i64 n) (.bool true)) fun __r => pure (.tuple #[])) fun x => .nd (.pointer (some (((a.add 0).add 0).add 2))) (.nd (.pointer (some ((a.add 0).add 0))) (.nd (.pointer (some (a.add 0))) (.someA d fun a_5 => .ne (.pointer (some a_5)) (.pointer (some a)) (.nd (.pointer d) (.leaf (.again [.map a_3])))))))))))))))))))))))))))) (fun vs => .popM vs fun a vs => .unNil vs (.call false 106 #[.pointer d,.int .i64 land,.int .i64 item] fun v => .each v [.map a] (fun xs vs => .unCons xs fun v vs_1 => .unAgg v fun l => .popI .i64 l fun n vs_2 => .popI .i64 vs_2 fun n_1 vs_3 => .popI .i64 vs_3 fun n_2 vs_4 => .popS vs_4 fun a n_3 c vs_5 => .unNil vs_5 (.unNil vs_1 (.popM vs fun a vs => .unNil vs (.sem false (Instr.makeMap 163 none) fun v => .unM v fun a_1 => .loop [.int .i64 n] (fun vs => .popI .i64 vs fun n vs => .unNil vs (bif decide (n <= n_1) then .call false 183 #[.pointer d,.slice lp ln lc,.int .i64 n] fun v => .unI .i64 v fun n_4 => .loop [.int .i64 0] (fun vs => .popI .i64 vs fun n vs => .unNil vs (bif decide (n < wrap .i64 (wrap .i64 (wrap .i64 (1 * 2 ^ min (Int.toNat (↑ln:Int)) 64) - 1) + 1)) then .sem false (Instr.lookup 163 (.map a) (.int .i64 n) false) fun v => .unB v fun b => bif b then .sem false (Sem.bind (Instr.mapUpdate 163 (.map a_1) (.int .i64 (wrap .i64 (↑(BitVec.toNat (BitVec.ofInt 64 n ||| BitVec.ofInt 64 n_4)):Int))) (.bool true)) fun __r => pure (.tuple #[])) fun x => .leaf (.again [.int .i64 (wrap .i64 (n + 1))]) else .leaf (.again [.int .i64 (wrap .i64 (n + 1))]) else .leaf (.brk [.int .i64 n]))) (fun vs => .popI .i64 vs fun n_5 vs => .unNil vs (.leaf (.again [.int .i64 (wrap .i64 (n + 1))]))) (fun vs => .popI .i64 vs fun n_5 vs => .unNil vs (.leaf (.retn [.int .i64 n]))) fun x x_1 => .fail else .leaf (.brk [.int .i64 n]))) (fun vs => .popI .i64 vs fun n vs => .unNil vs (.leaf (.again [.map a_1]))) (fun vs => .popI .i64 vs fun n vs => .unNil vs (.leaf (.retn [.map a]))) fun x x_1 => .fail)))) (fun vs => .popM vs fun a vs => .unNil vs (.sem false (Instr.lookup 163 (.map a) (.int .i64 (wrap .i64 (wrap .i64 (1 * 2 ^ min (Int.toNat (↑ln:Int)) 64) - 1))) false) fun v => .unB v fun b => .leaf (.ret (.bool !b)))) (fun vs => .popM vs fun a vs => .unNil vs (.sem false (Instr.lookup 163 (.map a) (.int .i64 (wrap .i64 (wrap .i64 (1 * 2 ^ min (Int.toNat (↑ln:Int)) 64) - 1))) false) fun v => .unB v fun b => .leaf (.ret (.bool !b)))) (fun vs => .popM vs fun a vs => .unNil vs (.leaf (.ret (.bool false)))) fun x x_1 => .fail)) (fun vs => .popM vs fun a vs => .unNil vs (.leaf (.ret (.bool false)))) fun x x_1 => .fail)
theorem w102 (d:Option Addr) (land item:Int) (lp:Option Addr) (ln lc:Nat):FX X 145 #[.pointer d,.int .i64 land,.int .i64 item,.slice lp ln lc] h A (n102 d land item lp ln lc) := fk [4,7,9,10,11] [⟨4,[(53,.int .i64)],[4,7,9,10,11],[],[],[]⟩,⟨2,[(13,.int .i64)],[4,7,9,10,11],[],[],[]⟩,{ id := 0,slots := [(45056,.map)],ro := [4,7,9],outs := [],ps := [.agg [.int .i64,.int .i64,.int .i64,.slice]] }] [{ id := 3,slots := [(45056,.map)],ro := [4,7,9],outs := [],pps := [10] }] Tryz.f145
noncomputable def n107 (d:Option Addr) (lp:Option Addr) (ln lc:Nat) (day:Int):T := .loop [.int .i64 0,.int .i64 0] (fun vs => .popI .i64 vs fun n vs => .popI .i64 vs fun n_1 vs => .unNil vs (bif decide (n_1 < (↑ln:Int)) then .need (0 <= n_1 /\ n_1 < (↑ln:Int)) (.someA lp fun a => .loadI .i64 ((a.add (n_1.toNat * 3)).add 0) fun n_2 => .loadI .i64 ((a.add (n_1.toNat * 3)).add 1) fun n_3 => .loadS ((a.add (n_1.toNat * 3)).add 2) fun p n_4 c => .call false 60 #[.pointer d,.int .i64 n_2] fun v => .unAgg v fun l => .popI .i64 l fun n_5 vs => .popI .i64 vs fun n_6 vs => .unNil vs (.call false 99 #[.int .i64 day,.int .i64 n_5,.int .i64 n_6] fun v => .unB v fun b => bif b then .need (0 <= n_1) (.leaf (.again [.int .i64 (wrap .i64 (↑(BitVec.toNat (BitVec.ofInt 64 n ||| BitVec.ofInt 64 (wrap .i64 (1 * 2 ^ min (n_1.toNat) 64)))):Int)),.int .i64 (wrap .i64 (n_1 + 1))])) else .leaf (.again [.int .i64 n,.int .i64 (wrap .i64 (n_1 + 1))]))) else .leaf (.brk [.int .i64 n,.int .i64 n_1]))) (fun vs => .popI .i64 vs fun n vs => .popI .i64 vs fun n_1 vs => .unNil vs (.leaf (.ret (.int .i64 n)))) (fun vs => .popI .i64 vs fun n vs => .popI .i64 vs fun n vs => .unNil vs (.leaf (.ret (.int .i64 0)))) fun x x_1 => .fail
theorem w107 (d:Option Addr) (lp:Option Addr) (ln lc:Nat) (day:Int):FX X 183 #[.pointer d,.slice lp ln lc,.int .i64 day] h A (n107 d lp ln lc day) := fk [9,10] [⟨0,[(7,.int .i64),(13,.int .i64)],[],[],[],[]⟩] [] Tryz.f183
noncomputable def n126 (u_0 u_1 u_2 u_3:Int) (u_4p:Option Addr) (u_4n u_4c:Nat) (u_5p:Option Addr) (u_5n u_5c:Nat) (u_6p:Option Addr) (u_6n u_6c:Nat):T := .call false 99 #[.int .i64 u_0,.int .i64 0,.int .i64 6] fun v => .unB v fun b => bif !b then .call false 101 #[.bool true,.int .i64 1] fun v => .unI .i64 v fun n => .leaf (.ret (.int .i64 n)) else .call false 99 #[.int .i64 u_1,.int .i64 1,.int .i64 3] fun v => .unB v fun b => bif !b then .call false 101 #[.bool true,.int .i64 1] fun v => .unI .i64 v fun n => .leaf (.ret (.int .i64 n)) else .call false 102 #[.int .i64 u_2] fun v => .unB v fun b => bif !b then .call false 101 #[.bool true,.int .i64 1] fun v => .unI .i64 v fun n => .leaf (.ret (.int .i64 n)) else .call false 99 #[.int .i64 u_3,.int .i64 1,.int .i64 2000] fun v => .unB v fun b => .call false 101 #[.bool !b,.int .i64 1] fun v => .unI .i64 v fun n => .leaf (.ret (.int .i64 n))
theorem w126 (u_0 u_1 u_2 u_3:Int) (u_4p:Option Addr) (u_4n u_4c:Nat) (u_5p:Option Addr) (u_5n u_5c:Nat) (u_6p:Option Addr) (u_6n u_6c:Nat):FX X 237 #[.agg #[.int .i64 u_0,.int .i64 u_1,.int .i64 u_2,.int .i64 u_3,.slice u_4p u_4n u_4c,.slice u_5p u_5n u_5c,.slice u_6p u_6n u_6c]] h A (n126 u_0 u_1 u_2 u_3 u_4p u_4n u_4c u_5p u_5n u_5c u_6p u_6n u_6c) := fk [1] [] [] Tryz.f237
noncomputable def n127 (u_0 u_1 u_2 u_3:Int) (u_4p:Option Addr) (u_4n u_4c:Nat) (u_5p:Option Addr) (u_5n u_5c:Nat) (u_6p:Option Addr) (u_6n u_6c:Nat):T := .call false 241 #[.slice u_4p u_4n u_4c,.int .i64 4,.func (Fn.func 242) #[] #[]] fun v => .unI .i64 v fun n => .leaf (.ret (.int .i64 n))
theorem w127 (u_0 u_1 u_2 u_3:Int) (u_4p:Option Addr) (u_4n u_4c:Nat) (u_5p:Option Addr) (u_5n u_5c:Nat) (u_6p:Option Addr) (u_6n u_6c:Nat):FX X 238 #[.agg #[.int .i64 u_0,.int .i64 u_1,.int .i64 u_2,.int .i64 u_3,.slice u_4p u_4n u_4c,.slice u_5p u_5n u_5c,.slice u_6p u_6n u_6c]] h A (n127 u_0 u_1 u_2 u_3 u_4p u_4n u_4c u_5p u_5n u_5c u_6p u_6n u_6c) := fk [1] [] [] Tryz.f238
noncomputable def n128 (u_0 u_1 u_2 u_3:Int) (u_4p:Option Addr) (u_4n u_4c:Nat) (u_5p:Option Addr) (u_5n u_5c:Nat) (u_6p:Option Addr) (u_6n u_6c:Nat):T := .new 133 #[.int .i64 u_0,.int .i64 u_1,.int .i64 u_2,.int .i64 u_3,.slice u_4p u_4n u_4c,.slice u_5p u_5n u_5c,.slice u_6p u_6n u_6c] fun r => .loadS ((Addr.add { block := r,off := 0 } 0).add 5) fun p n c => .call false 244 #[.slice p n c,.int .i64 8,.func (Fn.func 245) #[] #[.pointer (some { block := r,off := 0 })]] fun v => .unI .i64 v fun n => .leaf (.ret (.int .i64 n))
theorem w128 (u_0 u_1 u_2 u_3:Int) (u_4p:Option Addr) (u_4n u_4c:Nat) (u_5p:Option Addr) (u_5n u_5c:Nat) (u_6p:Option Addr) (u_6n u_6c:Nat):FX X 239 #[.agg #[.int .i64 u_0,.int .i64 u_1,.int .i64 u_2,.int .i64 u_3,.slice u_4p u_4n u_4c,.slice u_5p u_5n u_5c,.slice u_6p u_6n u_6c]] h A (n128 u_0 u_1 u_2 u_3 u_4p u_4n u_4c u_5p u_5n u_5c u_6p u_6n u_6c) := fk [] [] [] Tryz.f239
noncomputable def n129 (u_0 u_1 u_2 u_3:Int) (u_4p:Option Addr) (u_4n u_4c:Nat) (u_5p:Option Addr) (u_5n u_5c:Nat) (u_6p:Option Addr) (u_6n u_6c:Nat):T := .new 133 #[.int .i64 u_0,.int .i64 u_1,.int .i64 u_2,.int .i64 u_3,.slice u_4p u_4n u_4c,.slice u_5p u_5n u_5c,.slice u_6p u_6n u_6c] fun r => .loadS ((Addr.add { block := r,off := 0 } 0).add 6) fun p n c => .call false 246 #[.slice p n c,.int .i64 4,.func (Fn.func 247) #[] #[.pointer (some { block := r,off := 0 })]] fun v => .unI .i64 v fun n => .leaf (.ret (.int .i64 n))
theorem w129 (u_0 u_1 u_2 u_3:Int) (u_4p:Option Addr) (u_4n u_4c:Nat) (u_5p:Option Addr) (u_5n u_5c:Nat) (u_6p:Option Addr) (u_6n u_6c:Nat):FX X 240 #[.agg #[.int .i64 u_0,.int .i64 u_1,.int .i64 u_2,.int .i64 u_3,.slice u_4p u_4n u_4c,.slice u_5p u_5n u_5c,.slice u_6p u_6n u_6c]] h A (n129 u_0 u_1 u_2 u_3 u_4p u_4n u_4c u_5p u_5n u_5c u_6p u_6n u_6c) := fk [] [] [] Tryz.f240
noncomputable def n130 (lp:Option Addr) (ln lc:Nat) (most:Int) (flaw:Value):T := bif decide ((↑ln:Int) > most) then .leaf (.ret (.int .i64 2)) else .loop [.int .i64 0,.int .i64 0] (fun vs => .popI .i64 vs fun n vs => .popI .i64 vs fun n_1 vs => .unNil vs (bif decide (n_1 < (↑ln:Int)) then .need (0 <= n_1 /\ n_1 < (↑ln:Int)) (.someA lp fun a => .loadI .i64 ((a.add (n_1.toNat * 2)).add 0) fun n_2 => .loadI .i64 ((a.add (n_1.toNat * 2)).add 1) fun n_3 => .callv false flaw #[.int .i64 n_1,.agg #[.int .i64 n_2,.int .i64 n_3]] fun v => .unI .i64 v fun n_4 => bif n_4 != 0 then .leaf (.retn [.int .i64 n_4,.int .i64 n_1]) else .leaf (.again [.int .i64 n,.int .i64 (wrap .i64 (n_1 + 1))])) else .leaf (.brk [.int .i64 n,.int .i64 n_1]))) (fun vs => .popI .i64 vs fun n vs => .popI .i64 vs fun n vs => .unNil vs (.leaf (.ret (.int .i64 0)))) (fun vs => .popI .i64 vs fun n vs => .popI .i64 vs fun n_1 vs => .unNil vs (.leaf (.ret (.int .i64 n)))) fun x x_1 => .fail
theorem w130 (lp:Option Addr) (ln lc:Nat) (most:Int) (flaw:Value):FX X 241 #[.slice lp ln lc,.int .i64 most,flaw] h A (n130 lp ln lc most flaw) := fk [8] [⟨0,[(6,.int .i64),(16,.int .i64)],[],[],[],[]⟩] [] Tryz.f241
noncomputable def n131 (a0 x_0 x_1:Int):T := .call false 243 #[.agg #[.int .i64 x_0,.int .i64 x_1]] fun v => .unB v fun b => .call false 101 #[.bool !b,.int .i64 1] fun v => .unI .i64 v fun n => .leaf (.ret (.int .i64 n))
theorem w131 (a0 x_0 x_1:Int):FX X 242 #[.int .i64 a0,.agg #[.int .i64 x_0,.int .i64 x_1]] h A (n131 a0 x_0 x_1) := fk [3] [] [] Tryz.f242
noncomputable def n132 (x_0 x_1:Int):T := .call false 102 #[.int .i64 x_0] fun v => .unB v fun b => bif b then .call false 102 #[.int .i64 x_1] fun v => .unB v fun b => bif b then .leaf (.ret (.bool (decide (x_0 <= x_1)))) else .leaf (.ret (.bool false)) else .leaf (.ret (.bool false))
theorem w132 (x_0 x_1:Int):FX X 243 #[.agg #[.int .i64 x_0,.int .i64 x_1]] h A (n132 x_0 x_1) := fk [1] [] [] Tryz.f243
noncomputable def n133 (lp:Option Addr) (ln lc:Nat) (most:Int) (flaw:Value):T := bif decide ((↑ln:Int) > most) then .leaf (.ret (.int .i64 2)) else .loop [.int .i64 0,.int .i64 0] (fun vs => .popI .i64 vs fun n vs => .popI .i64 vs fun n_1 vs => .unNil vs (bif decide (n_1 < (↑ln:Int)) then .need (0 <= n_1 /\ n_1 < (↑ln:Int)) (.someA lp fun a => .loadI .i64 ((a.add (n_1.toNat * 4)).add 0) fun n_2 => .loadI .i64 ((a.add (n_1.toNat * 4)).add 1) fun n_3 => .loadI .i64 ((a.add (n_1.toNat * 4)).add 2) fun n_4 => .loadS ((a.add (n_1.toNat * 4)).add 3) fun p n_5 c => .callv false flaw #[.int .i64 n_1,.agg #[.int .i64 n_2,.int .i64 n_3,.int .i64 n_4,.slice p n_5 c]] fun v => .unI .i64 v fun n_6 => bif n_6 != 0 then .leaf (.retn [.int .i64 n_6,.int .i64 n_1]) else .leaf (.again [.int .i64 n,.int .i64 (wrap .i64 (n_1 + 1))])) else .leaf (.brk [.int .i64 n,.int .i64 n_1]))) (fun vs => .popI .i64 vs fun n vs => .popI .i64 vs fun n vs => .unNil vs (.leaf (.ret (.int .i64 0)))) (fun vs => .popI .i64 vs fun n vs => .popI .i64 vs fun n_1 vs => .unNil vs (.leaf (.ret (.int .i64 n)))) fun x x_1 => .fail
theorem w133 (lp:Option Addr) (ln lc:Nat) (most:Int) (flaw:Value):FX X 244 #[.slice lp ln lc,.int .i64 most,flaw] h A (n133 lp ln lc most flaw) := fk [8] [⟨0,[(6,.int .i64),(16,.int .i64)],[],[],[],[]⟩] [] Tryz.f244
noncomputable def n134 (a0 p_0 p_1 p_2:Int) (p_3p:Option Addr) (p_3n p_3c:Nat) (z0:Addr):T := .loadI .i64 (z0.add 0) fun n => .loadI .i64 (z0.add 1) fun n_1 => .loadI .i64 (z0.add 2) fun n_2 => .loadI .i64 (z0.add 3) fun n_3 => .loadS (z0.add 4) fun p n_4 c => .loadS (z0.add 5) fun p_3 n_5 c_1 => .loadS (z0.add 6) fun p_4 n_6 c_2 => .loadI .i64 ((z0.add 0).add 0) fun n_7 => .call false 243 #[.agg #[.int .i64 p_0,.int .i64 p_1]] fun v => .unB v fun b => .loadI .i64 ((z0.add 0).add 0) fun n_8 => .ne (.int .i64 n_8) (.int .i64 n_7) (.nd (.pointer (some ((z0.add 0).add 0))) (.nd (.pointer (some (z0.add 0))) (.nd (.slice p_3p p_3n p_3c) (.np 4 3 (.nd (.int .i64 p_2) (.np 4 2 (.loadI .i64 (z0.add 0) fun n_9 => .loadI .i64 (z0.add 1) fun n_10 => .loadI .i64 (z0.add 2) fun n_11 => .loadI .i64 (z0.add 3) fun n_12 => .loadS (z0.add 4) fun p_5 n_13 c_3 => .loadS (z0.add 5) fun p_6 n_14 c_4 => .loadS (z0.add 6) fun p_7 n_15 c_5 => .ne (.agg #[.int .i64 n_9,.int .i64 n_10,.int .i64 n_11,.int .i64 n_12,.slice p_5 n_13 c_3,.slice p_6 n_14 c_4,.slice p_7 n_15 c_5]) (.agg #[.int .i64 n,.int .i64 n_1,.int .i64 n_2,.int .i64 n_3,.slice p n_4 c,.slice p_3 n_5 c_1,.slice p_4 n_6 c_2]) (.np 4 0 (.call false 101 #[.bool !b,.int .i64 1] fun v => .unI .i64 v fun n_16 => .loadI .i64 ((z0.add 0).add 0) fun n_17 => .ne (.int .i64 n_17) (.int .i64 n_7) (.nd (.pointer (some ((z0.add 0).add 0))) (.nd (.pointer (some (z0.add 0))) (.nd (.slice p_3p p_3n p_3c) (.np 4 3 (.nd (.int .i64 p_2) (.np 4 2 (.loadI .i64 (z0.add 0) fun n_18 => .loadI .i64 (z0.add 1) fun n_19 => .loadI .i64 (z0.add 2) fun n_20 => .loadI .i64 (z0.add 3) fun n_21 => .loadS (z0.add 4) fun p_8 n_22 c_6 => .loadS (z0.add 5) fun p_9 n_23 c_7 => .loadS (z0.add 6) fun p_10 n_24 c_8 => .ne (.agg #[.int .i64 n_18,.int .i64 n_19,.int .i64 n_20,.int .i64 n_21,.slice p_8 n_22 c_6,.slice p_9 n_23 c_7,.slice p_10 n_24 c_8]) (.agg #[.int .i64 n,.int .i64 n_1,.int .i64 n_2,.int .i64 n_3,.slice p n_4 c,.slice p_3 n_5 c_1,.slice p_4 n_6 c_2]) (.np 4 0 (.call false 104 #[.agg #[.int .i64 n,.int .i64 n_1,.int .i64 n_2,.int .i64 n_3,.slice p n_4 c,.slice p_3 n_5 c_1,.slice p_4 n_6 c_2],.int .i64 p_2] fun v => .unB v fun b => .loadI .i64 ((z0.add 0).add 0) fun n => .ne (.int .i64 n) (.int .i64 n_7) (.nd (.pointer (some ((z0.add 0).add 0))) (.nd (.pointer (some (z0.add 0))) (.nd (.slice p_3p p_3n p_3c) (.np 4 3 (.np 4 2 (.np 4 0 (.call false 101 #[.bool !b,.int .i64 6] fun v => .unI .i64 v fun n => .loadI .i64 ((z0.add 0).add 0) fun n_25 => .ne (.int .i64 n_25) (.int .i64 n_7) (.nd (.pointer (some ((z0.add 0).add 0))) (.nd (.pointer (some (z0.add 0))) (.nd (.slice p_3p p_3n p_3c) (.np 4 3 (.np 4 2 (.np 4 0 (.call false 69 #[.slice p_3p p_3n p_3c,.int .i64 n_7] fun v => .unI .i64 v fun n_26 => .nd (.pointer (some ((z0.add 0).add 0))) (.nd (.pointer (some (z0.add 0))) (.np 4 3 (.np 4 2 (.np 4 0 (.sem false (Instr.buildSlice 247 3 #[(0,.int .i64 n_16),(1,.int .i64 n),(2,.int .i64 n_26)]) fun v => .unS v fun a n c => .nd (.pointer (some ((z0.add 0).add 0))) (.nd (.pointer (some (z0.add 0))) (.np 4 3 (.np 4 2 (.np 4 0 (.call false 110 #[.slice a n c] fun v => .unI .i64 v fun n => .nd (.pointer (some ((z0.add 0).add 0))) (.nd (.pointer (some (z0.add 0))) (.np 4 3 (.np 4 2 (.np 4 0 (.leaf (.ret (.int .i64 n)))))))))))))))))))))))))))))))))))))))))))))))))
theorem w134 (a0 p_0 p_1 p_2:Int) (p_3p:Option Addr) (p_3n p_3c:Nat) (z0:Addr):FX X 245 #[.int .i64 a0,.agg #[.int .i64 p_0,.int .i64 p_1,.int .i64 p_2,.slice p_3p p_3n p_3c],.pointer (some z0)] h A (n134 a0 p_0 p_1 p_2 p_3p p_3n p_3c z0) := fk [4] [] [] Tryz.f245
noncomputable def n135 (lp:Option Addr) (ln lc:Nat) (most:Int) (flaw:Value):T := bif decide ((↑ln:Int) > most) then .leaf (.ret (.int .i64 2)) else .loop [.int .i64 0,.int .i64 0] (fun vs => .popI .i64 vs fun n vs => .popI .i64 vs fun n_1 vs => .unNil vs (bif decide (n_1 < (↑ln:Int)) then .need (0 <= n_1 /\ n_1 < (↑ln:Int)) (.someA lp fun a => .loadI .i64 ((a.add (n_1.toNat * 3)).add 0) fun n_2 => .loadI .i64 ((a.add (n_1.toNat * 3)).add 1) fun n_3 => .loadS ((a.add (n_1.toNat * 3)).add 2) fun p n_4 c => .callv false flaw #[.int .i64 n_1,.agg #[.int .i64 n_2,.int .i64 n_3,.slice p n_4 c]] fun v => .unI .i64 v fun n_5 => bif n_5 != 0 then .leaf (.retn [.int .i64 n_5,.int .i64 n_1]) else .leaf (.again [.int .i64 n,.int .i64 (wrap .i64 (n_1 + 1))])) else .leaf (.brk [.int .i64 n,.int .i64 n_1]))) (fun vs => .popI .i64 vs fun n vs => .popI .i64 vs fun n vs => .unNil vs (.leaf (.ret (.int .i64 0)))) (fun vs => .popI .i64 vs fun n vs => .popI .i64 vs fun n_1 vs => .unNil vs (.leaf (.ret (.int .i64 n)))) fun x x_1 => .fail
theorem w135 (lp:Option Addr) (ln lc:Nat) (most:Int) (flaw:Value):FX X 246 #[.slice lp ln lc,.int .i64 most,flaw] h A (n135 lp ln lc most flaw) := fk [8] [⟨0,[(6,.int .i64),(16,.int .i64)],[],[],[],[]⟩] [] Tryz.f246
noncomputable def n136 (i r_0 r_1:Int) (r_2p:Option Addr) (r_2n r_2c:Nat) (z0:Addr):T := .loadI .i64 ((z0.add 0).add 2) fun n => .loadI .i64 (z0.add 0) fun n_1 => .loadI .i64 (z0.add 1) fun n_2 => .loadI .i64 (z0.add 2) fun n_3 => .loadI .i64 (z0.add 3) fun n_4 => .loadS (z0.add 4) fun p n_5 c => .loadS (z0.add 5) fun p_1 n_6 c_1 => .loadS (z0.add 6) fun p_2 n_7 c_2 => .loadI .i64 ((z0.add 0).add 0) fun n_8 => .call false 102 #[.int .i64 r_0] fun v => .unB v fun b => .loadI .i64 ((z0.add 0).add 0) fun n_9 => .ne (.int .i64 n_9) (.int .i64 n_8) (.nd (.pointer (some ((z0.add 0).add 0))) (.nd (.pointer (some (z0.add 0))) (.nd (.slice r_2p r_2n r_2c) (.np 4 2 (.nd (.int .i64 r_1) (.np 4 1 (.loadI .i64 (z0.add 0) fun n_10 => .loadI .i64 (z0.add 1) fun n_11 => .loadI .i64 (z0.add 2) fun n_12 => .loadI .i64 (z0.add 3) fun n_13 => .loadS (z0.add 4) fun p_3 n_14 c_3 => .loadS (z0.add 5) fun p_4 n_15 c_4 => .loadS (z0.add 6) fun p_5 n_16 c_5 => .ne (.agg #[.int .i64 n_10,.int .i64 n_11,.int .i64 n_12,.int .i64 n_13,.slice p_3 n_14 c_3,.slice p_4 n_15 c_4,.slice p_5 n_16 c_5]) (.agg #[.int .i64 n_1,.int .i64 n_2,.int .i64 n_3,.int .i64 n_4,.slice p n_5 c,.slice p_1 n_6 c_1,.slice p_2 n_7 c_2]) (.nd (.bool (decide (r_0 < n))) (.loadI .i64 ((z0.add 0).add 2) fun n_17 => .ne (.int .i64 n_17) (.int .i64 n) (.nd (.pointer (some ((z0.add 0).add 2))) (.nd (.pointer (some (z0.add 0))) (.nd (.int .i64 r_0) (.np 4 0 (.np 4 0 (.call false 101 #[.bool !b,.int .i64 1] fun v => .unI .i64 v fun n_18 => .loadI .i64 ((z0.add 0).add 0) fun n_19 => .ne (.int .i64 n_19) (.int .i64 n_8) (.nd (.pointer (some ((z0.add 0).add 0))) (.nd (.pointer (some (z0.add 0))) (.nd (.slice r_2p r_2n r_2c) (.np 4 2 (.nd (.int .i64 r_1) (.np 4 1 (.loadI .i64 (z0.add 0) fun n_20 => .loadI .i64 (z0.add 1) fun n_21 => .loadI .i64 (z0.add 2) fun n_22 => .loadI .i64 (z0.add 3) fun n_23 => .loadS (z0.add 4) fun p_6 n_24 c_6 => .loadS (z0.add 5) fun p_7 n_25 c_7 => .loadS (z0.add 6) fun p_8 n_26 c_8 => .ne (.agg #[.int .i64 n_20,.int .i64 n_21,.int .i64 n_22,.int .i64 n_23,.slice p_6 n_24 c_6,.slice p_7 n_25 c_7,.slice p_8 n_26 c_8]) (.agg #[.int .i64 n_1,.int .i64 n_2,.int .i64 n_3,.int .i64 n_4,.slice p n_5 c,.slice p_1 n_6 c_1,.slice p_2 n_7 c_2]) (.nd (.bool (decide (r_0 < n))) (.loadI .i64 ((z0.add 0).add 2) fun n_27 => .ne (.int .i64 n_27) (.int .i64 n) (.nd (.pointer (some ((z0.add 0).add 2))) (.nd (.pointer (some (z0.add 0))) (.nd (.int .i64 r_0) (.np 4 0 (.np 4 0 (bif decide (r_0 < n) then .loadI .i64 ((z0.add 0).add 0) fun n_28 => .ne (.int .i64 n_28) (.int .i64 n_8) (.nd (.pointer (some ((z0.add 0).add 0))) (.nd (.pointer (some (z0.add 0))) (.nd (.slice r_2p r_2n r_2c) (.np 4 2 (.nd (.int .i64 r_1) (.np 4 1 (.loadI .i64 (z0.add 0) fun n_29 => .loadI .i64 (z0.add 1) fun n_30 => .loadI .i64 (z0.add 2) fun n_31 => .loadI .i64 (z0.add 3) fun n_32 => .loadS (z0.add 4) fun p_9 n_33 c_9 => .loadS (z0.add 5) fun p_10 n_34 c_10 => .loadS (z0.add 6) fun p_11 n_35 c_11 => .ne (.agg #[.int .i64 n_29,.int .i64 n_30,.int .i64 n_31,.int .i64 n_32,.slice p_9 n_33 c_9,.slice p_10 n_34 c_10,.slice p_11 n_35 c_11]) (.agg #[.int .i64 n_1,.int .i64 n_2,.int .i64 n_3,.int .i64 n_4,.slice p n_5 c,.slice p_1 n_6 c_1,.slice p_2 n_7 c_2]) (.nd (.bool (decide (r_0 < n))) (.loadI .i64 ((z0.add 0).add 2) fun n_36 => .ne (.int .i64 n_36) (.int .i64 n) (.nd (.pointer (some ((z0.add 0).add 2))) (.nd (.pointer (some (z0.add 0))) (.nd (.int .i64 r_0) (.np 4 0 (.np 4 0 (.nd (.tuple #[]) (.nd (.tuple #[]) (.nd (.tuple #[]) (.nd (.tuple #[]) (.nd (.tuple #[]) (.loadI .i64 ((z0.add 0).add 0) fun n_37 => .ne (.int .i64 n_37) (.int .i64 n_8) (.nd (.pointer (some ((z0.add 0).add 0))) (.nd (.pointer (some (z0.add 0))) (.nd (.slice r_2p r_2n r_2c) (.np 4 2 (.nd (.int .i64 r_1) (.np 4 1 (.loadI .i64 (z0.add 0) fun n_38 => .loadI .i64 (z0.add 1) fun n_39 => .loadI .i64 (z0.add 2) fun n_40 => .loadI .i64 (z0.add 3) fun n_41 => .loadS (z0.add 4) fun p_12 n_42 c_12 => .loadS (z0.add 5) fun p_13 n_43 c_13 => .loadS (z0.add 6) fun p_14 n_44 c_14 => .ne (.agg #[.int .i64 n_38,.int .i64 n_39,.int .i64 n_40,.int .i64 n_41,.slice p_12 n_42 c_12,.slice p_13 n_43 c_13,.slice p_14 n_44 c_14]) (.agg #[.int .i64 n_1,.int .i64 n_2,.int .i64 n_3,.int .i64 n_4,.slice p n_5 c,.slice p_1 n_6 c_1,.slice p_2 n_7 c_2]) (.nd (.bool (decide (r_0 < n))) (.loadI .i64 ((z0.add 0).add 2) fun n_45 => .ne (.int .i64 n_45) (.int .i64 n) (.nd (.pointer (some ((z0.add 0).add 2))) (.nd (.pointer (some (z0.add 0))) (.nd (.int .i64 r_0) (.np 4 0 (.np 4 0 (.nd (.tuple #[]) (.nd (.tuple #[]) (.nd (.tuple #[]) (.nd (.tuple #[]) (.nd (.tuple #[]) (.loadI .i64 ((z0.add 0).add 0) fun n_46 => .ne (.int .i64 n_46) (.int .i64 n_8) (.nd (.pointer (some ((z0.add 0).add 0))) (.nd (.pointer (some (z0.add 0))) (.nd (.slice r_2p r_2n r_2c) (.np 4 2 (.nd (.int .i64 r_1) (.np 4 1 (.loadI .i64 (z0.add 0) fun n_47 => .loadI .i64 (z0.add 1) fun n_48 => .loadI .i64 (z0.add 2) fun n_49 => .loadI .i64 (z0.add 3) fun n_50 => .loadS (z0.add 4) fun p_15 n_51 c_15 => .loadS (z0.add 5) fun p_16 n_52 c_16 => .loadS (z0.add 6) fun p_17 n_53 c_17 => .ne (.agg #[.int .i64 n_47,.int .i64 n_48,.int .i64 n_49,.int .i64 n_50,.slice p_15 n_51 c_15,.slice p_16 n_52 c_16,.slice p_17 n_53 c_17]) (.agg #[.int .i64 n_1,.int .i64 n_2,.int .i64 n_3,.int .i64 n_4,.slice p n_5 c,.slice p_1 n_6 c_1,.slice p_2 n_7 c_2]) (.nd (.bool (decide (r_0 < n))) (.loadI .i64 ((z0.add 0).add 2) fun n_54 => .ne (.int .i64 n_54) (.int .i64 n) (.nd (.pointer (some ((z0.add 0).add 2))) (.nd (.pointer (some (z0.add 0))) (.nd (.int .i64 r_0) (.np 4 0 (.np 4 0 (.nd (.tuple #[]) (.nd (.tuple #[]) (.nd (.tuple #[]) (.nd (.tuple #[]) (.nd (.tuple #[]) (.nd (.tuple #[]) (.loadI .i64 ((z0.add 0).add 0) fun n_55 => .ne (.int .i64 n_55) (.int .i64 n_8) (.nd (.pointer (some ((z0.add 0).add 0))) (.nd (.pointer (some (z0.add 0))) (.nd (.slice r_2p r_2n r_2c) (.np 4 2 (.nd (.int .i64 r_1) (.np 4 1 (.loadI .i64 (z0.add 0) fun n_56 => .loadI .i64 (z0.add 1) fun n_57 => .loadI .i64 (z0.add 2) fun n_58 => .loadI .i64 (z0.add 3) fun n_59 => .loadS (z0.add 4) fun p_18 n_60 c_18 => .loadS (z0.add 5) fun p_19 n_61 c_19 => .loadS (z0.add 6) fun p_20 n_62 c_20 => .ne (.agg #[.int .i64 n_56,.int .i64 n_57,.int .i64 n_58,.int .i64 n_59,.slice p_18 n_60 c_18,.slice p_19 n_61 c_19,.slice p_20 n_62 c_20]) (.agg #[.int .i64 n_1,.int .i64 n_2,.int .i64 n_3,.int .i64 n_4,.slice p n_5 c,.slice p_1 n_6 c_1,.slice p_2 n_7 c_2]) (.nd (.bool (decide (r_0 < n))) (.loadI .i64 ((z0.add 0).add 2) fun n_63 => .ne (.int .i64 n_63) (.int .i64 n) (.nd (.pointer (some ((z0.add 0).add 2))) (.nd (.pointer (some (z0.add 0))) (.nd (.int .i64 r_0) (.np 4 0 (.np 4 0 (.call false 101 #[.bool true,.int .i64 7] fun v => .unI .i64 v fun n_64 => .nd (.tuple #[]) (.nd (.tuple #[]) (.nd (.tuple #[]) (.nd (.tuple #[]) (.nd (.tuple #[]) (.nd (.tuple #[]) (.nd (.tuple #[]) (.loadI .i64 ((z0.add 0).add 0) fun n_65 => .ne (.int .i64 n_65) (.int .i64 n_8) (.nd (.pointer (some ((z0.add 0).add 0))) (.nd (.pointer (some (z0.add 0))) (.nd (.slice r_2p r_2n r_2c) (.np 4 2 (.nd (.int .i64 r_1) (.np 4 1 (.loadI .i64 (z0.add 0) fun n_66 => .loadI .i64 (z0.add 1) fun n_67 => .loadI .i64 (z0.add 2) fun n_68 => .loadI .i64 (z0.add 3) fun n_69 => .loadS (z0.add 4) fun p_21 n_70 c_21 => .loadS (z0.add 5) fun p_22 n_71 c_22 => .loadS (z0.add 6) fun p_23 n_72 c_23 => .ne (.agg #[.int .i64 n_66,.int .i64 n_67,.int .i64 n_68,.int .i64 n_69,.slice p_21 n_70 c_21,.slice p_22 n_71 c_22,.slice p_23 n_72 c_23]) (.agg #[.int .i64 n_1,.int .i64 n_2,.int .i64 n_3,.int .i64 n_4,.slice p n_5 c,.slice p_1 n_6 c_1,.slice p_2 n_7 c_2]) (.nd (.bool (decide (r_0 < n))) (.loadI .i64 ((z0.add 0).add 2) fun n_73 => .ne (.int .i64 n_73) (.int .i64 n) (.nd (.pointer (some ((z0.add 0).add 2))) (.nd (.pointer (some (z0.add 0))) (.nd (.int .i64 r_0) (.np 4 0 (.np 4 0 (.call false 104 #[.agg #[.int .i64 n_1,.int .i64 n_2,.int .i64 n_3,.int .i64 n_4,.slice p n_5 c,.slice p_1 n_6 c_1,.slice p_2 n_7 c_2],.int .i64 r_1] fun v => .unB v fun b => .nd (.tuple #[]) (.nd (.tuple #[]) (.nd (.tuple #[]) (.nd (.tuple #[]) (.nd (.tuple #[]) (.nd (.tuple #[]) (.nd (.tuple #[]) (.loadI .i64 ((z0.add 0).add 0) fun n_74 => .ne (.int .i64 n_74) (.int .i64 n_8) (.nd (.pointer (some ((z0.add 0).add 0))) (.nd (.pointer (some (z0.add 0))) (.nd (.slice r_2p r_2n r_2c) (.np 4 2 (.np 4 1 (.nd (.bool (decide (r_0 < n))) (.loadI .i64 ((z0.add 0).add 2) fun n_75 => .ne (.int .i64 n_75) (.int .i64 n) (.nd (.pointer (some ((z0.add 0).add 2))) (.nd (.pointer (some (z0.add 0))) (.nd (.int .i64 r_0) (.np 4 0 (.np 4 0 (.call false 101 #[.bool !b,.int .i64 6] fun v => .unI .i64 v fun n_76 => .nd (.tuple #[]) (.nd (.tuple #[]) (.nd (.tuple #[]) (.nd (.tuple #[]) (.nd (.tuple #[]) (.nd (.tuple #[]) (.nd (.tuple #[]) (.loadI .i64 ((z0.add 0).add 0) fun n_77 => .ne (.int .i64 n_77) (.int .i64 n_8) (.nd (.pointer (some ((z0.add 0).add 0))) (.nd (.pointer (some (z0.add 0))) (.nd (.slice r_2p r_2n r_2c) (.np 4 2 (.np 4 1 (.nd (.bool (decide (r_0 < n))) (.loadI .i64 ((z0.add 0).add 2) fun n_78 => .ne (.int .i64 n_78) (.int .i64 n) (.nd (.pointer (some ((z0.add 0).add 2))) (.nd (.pointer (some (z0.add 0))) (.nd (.int .i64 r_0) (.np 4 0 (.np 4 0 (.call false 69 #[.slice r_2p r_2n r_2c,.int .i64 n_8] fun v => .unI .i64 v fun n_79 => .nd (.tuple #[]) (.nd (.tuple #[]) (.nd (.tuple #[]) (.nd (.tuple #[]) (.nd (.tuple #[]) (.nd (.tuple #[]) (.nd (.tuple #[]) (.nd (.pointer (some ((z0.add 0).add 0))) (.nd (.pointer (some (z0.add 0))) (.np 4 2 (.np 4 1 (.nd (.bool (decide (r_0 < n))) (.loadI .i64 ((z0.add 0).add 2) fun n_80 => .ne (.int .i64 n_80) (.int .i64 n) (.nd (.pointer (some ((z0.add 0).add 2))) (.nd (.pointer (some (z0.add 0))) (.nd (.int .i64 r_0) (.np 4 0 (.np 4 0 (.sem false (Instr.buildSlice 247 4 #[(0,.int .i64 n_18),(1,.int .i64 n_64),(2,.int .i64 n_76),(3,.int .i64 n_79)]) fun v => .unS v fun a n_81 c => .nd (.tuple #[]) (.nd (.tuple #[]) (.nd (.tuple #[]) (.nd (.tuple #[]) (.nd (.tuple #[]) (.nd (.tuple #[]) (.nd (.tuple #[]) (.nd (.pointer (some ((z0.add 0).add 0))) (.nd (.pointer (some (z0.add 0))) (.np 4 2 (.np 4 1 (.nd (.bool (decide (r_0 < n))) (.loadI .i64 ((z0.add 0).add 2) fun n_82 => .ne (.int .i64 n_82) (.int .i64 n) (.nd (.pointer (some ((z0.add 0).add 2))) (.nd (.pointer (some (z0.add 0))) (.nd (.int .i64 r_0) (.np 4 0 (.np 4 0 (.call false 110 #[.slice a n_81 c] fun v => .unI .i64 v fun n_83 => .nd (.tuple #[]) (.nd (.tuple #[]) (.nd (.tuple #[]) (.nd (.tuple #[]) (.nd (.tuple #[]) (.nd (.tuple #[]) (.nd (.tuple #[]) (.nd (.pointer (some ((z0.add 0).add 0))) (.nd (.pointer (some (z0.add 0))) (.np 4 2 (.np 4 1 (.nd (.bool (decide (r_0 < n))) (.loadI .i64 ((z0.add 0).add 2) fun n_84 => .ne (.int .i64 n_84) (.int .i64 n) (.nd (.pointer (some ((z0.add 0).add 2))) (.nd (.pointer (some (z0.add 0))) (.nd (.int .i64 r_0) (.np 4 0 (.np 4 0 (.leaf (.ret (.int .i64 n_83)))))))))))))))))))))))))))))))))))))))))))))))))))))))))))))))))))))))))))))))))))))))))))))))))))))))))))))))))))))))))))))))))))))))))))))))))))))))))))))))))))))))))))))))))))))))))))))))))) else bif decide (i > 0) then .loadS ((z0.add 0).add 6) fun p_9 n_28 c_9 => .need ((0 <= if wrap .i64 (i - 1) > 0 then wrap .i64 (i - 1) else 0) /\ (if wrap .i64 (i - 1) > 0 then wrap .i64 (i - 1) else 0) < (↑n_28:Int)) (.someA p_9 fun a => .loadI .i64 ((a.add ((if wrap .i64 (i - 1) > 0 then wrap .i64 (i - 1) else 0).toNat * 3)).add 0) fun n_29 => .call false 101 #[.bool (decide (r_0 < n_29)),.int .i64 7] fun v => .unI .i64 v fun n_30 => .nd (.bool (decide (r_0 < n_29))) (.nd (.bool (decide (r_0 < n_29))) (.loadI .i64 ((a.add ((if wrap .i64 (i - 1) > 0 then wrap .i64 (i - 1) else 0).toNat * 3)).add 0) fun n_31 => .ne (.int .i64 n_31) (.int .i64 n_29) (.nd (.pointer (some ((a.add ((if wrap .i64 (i - 1) > 0 then wrap .i64 (i - 1) else 0).toNat * 3)).add 0))) (.need ((0 <= if wrap .i64 (i - 1) > 0 then wrap .i64 (i - 1) else 0) /\ (if wrap .i64 (i - 1) > 0 then wrap .i64 (i - 1) else 0) < (↑n_28:Int)) (.someA p_9 fun a_1 => .ne (.pointer (some (a_1.add ((if wrap .i64 (i - 1) > 0 then wrap .i64 (i - 1) else 0).toNat * 3)))) (.pointer (some (a.add ((if wrap .i64 (i - 1) > 0 then wrap .i64 (i - 1) else 0).toNat * 3)))) (.nd (.int .i64 (if wrap .i64 (i - 1) > 0 then wrap .i64 (i - 1) else 0)) (.nd (.int .i64 (wrap .i64 (i - 1))) (.nd (.int .i64 i) (.loadS ((z0.add 0).add 6) fun p_10 n_32 c_10 => .ne (.slice p_10 n_32 c_10) (.slice p_9 n_28 c_9) (.nd (.pointer (some ((z0.add 0).add 6))) (.nd (.pointer (some (z0.add 0))) (.nd (.int .i64 r_0) (.np 4 0 (.nd (.bool (decide (i > 0))) (.nd (.int .i64 i) (.ne (.bool (decide (r_0 < n))) (.bool false) (.loadI .i64 ((z0.add 0).add 0) fun n_33 => .ne (.int .i64 n_33) (.int .i64 n_8) (.nd (.pointer (some ((z0.add 0).add 0))) (.nd (.pointer (some (z0.add 0))) (.nd (.slice r_2p r_2n r_2c) (.np 4 2 (.nd (.int .i64 r_1) (.np 4 1 (.loadI .i64 (z0.add 0) fun n_34 => .loadI .i64 (z0.add 1) fun n_35 => .loadI .i64 (z0.add 2) fun n_36 => .loadI .i64 (z0.add 3) fun n_37 => .loadS (z0.add 4) fun p_11 n_38 c_11 => .loadS (z0.add 5) fun p_12 n_39 c_12 => .loadS (z0.add 6) fun p_13 n_40 c_13 => .ne (.agg #[.int .i64 n_34,.int .i64 n_35,.int .i64 n_36,.int .i64 n_37,.slice p_11 n_38 c_11,.slice p_12 n_39 c_12,.slice p_13 n_40 c_13]) (.agg #[.int .i64 n_1,.int .i64 n_2,.int .i64 n_3,.int .i64 n_4,.slice p n_5 c,.slice p_1 n_6 c_1,.slice p_2 n_7 c_2]) (.nd (.bool (decide (r_0 < n))) (.loadI .i64 ((z0.add 0).add 2) fun n_41 => .ne (.int .i64 n_41) (.int .i64 n) (.nd (.pointer (some ((z0.add 0).add 2))) (.nd (.pointer (some (z0.add 0))) (.nd (.int .i64 r_0) (.np 4 0 (.np 4 0 (.call false 104 #[.agg #[.int .i64 n_1,.int .i64 n_2,.int .i64 n_3,.int .i64 n_4,.slice p n_5 c,.slice p_1 n_6 c_1,.slice p_2 n_7 c_2],.int .i64 r_1] fun v => .unB v fun b => .nd (.bool (decide (r_0 < n_29))) (.nd (.bool (decide (r_0 < n_29))) (.loadI .i64 ((a.add ((if wrap .i64 (i - 1) > 0 then wrap .i64 (i - 1) else 0).toNat * 3)).add 0) fun n_42 => .ne (.int .i64 n_42) (.int .i64 n_29) (.nd (.pointer (some ((a.add ((if wrap .i64 (i - 1) > 0 then wrap .i64 (i - 1) else 0).toNat * 3)).add 0))) (.need ((0 <= if wrap .i64 (i - 1) > 0 then wrap .i64 (i - 1) else 0) /\ (if wrap .i64 (i - 1) > 0 then wrap .i64 (i - 1) else 0) < (↑n_28:Int)) (.someA p_9 fun a_2 => .ne (.pointer (some (a_2.add ((if wrap .i64 (i - 1) > 0 then wrap .i64 (i - 1) else 0).toNat * 3)))) (.pointer (some (a.add ((if wrap .i64 (i - 1) > 0 then wrap .i64 (i - 1) else 0).toNat * 3)))) (.nd (.int .i64 (if wrap .i64 (i - 1) > 0 then wrap .i64 (i - 1) else 0)) (.nd (.int .i64 (wrap .i64 (i - 1))) (.nd (.int .i64 i) (.loadS ((z0.add 0).add 6) fun p n_43 c => .ne (.slice p n_43 c) (.slice p_9 n_28 c_9) (.nd (.pointer (some ((z0.add 0).add 6))) (.nd (.pointer (some (z0.add 0))) (.nd (.int .i64 r_0) (.np 4 0 (.nd (.bool (decide (i > 0))) (.nd (.int .i64 i) (.ne (.bool (decide (r_0 < n))) (.bool false) (.loadI .i64 ((z0.add 0).add 0) fun n_44 => .ne (.int .i64 n_44) (.int .i64 n_8) (.nd (.pointer (some ((z0.add 0).add 0))) (.nd (.pointer (some (z0.add 0))) (.nd (.slice r_2p r_2n r_2c) (.np 4 2 (.np 4 1 (.nd (.bool (decide (r_0 < n))) (.loadI .i64 ((z0.add 0).add 2) fun n_45 => .ne (.int .i64 n_45) (.int .i64 n) (.nd (.pointer (some ((z0.add 0).add 2))) (.nd (.pointer (some (z0.add 0))) (.nd (.int .i64 r_0) (.np 4 0 (.np 4 0 (.call false 101 #[.bool !b,.int .i64 6] fun v => .unI .i64 v fun n_46 => .nd (.bool (decide (r_0 < n_29))) (.nd (.bool (decide (r_0 < n_29))) (.loadI .i64 ((a.add ((if wrap .i64 (i - 1) > 0 then wrap .i64 (i - 1) else 0).toNat * 3)).add 0) fun n_47 => .ne (.int .i64 n_47) (.int .i64 n_29) (.nd (.pointer (some ((a.add ((if wrap .i64 (i - 1) > 0 then wrap .i64 (i - 1) else 0).toNat * 3)).add 0))) (.need ((0 <= if wrap .i64 (i - 1) > 0 then wrap .i64 (i - 1) else 0) /\ (if wrap .i64 (i - 1) > 0 then wrap .i64 (i - 1) else 0) < (↑n_28:Int)) (.someA p_9 fun a_3 => .ne (.pointer (some (a_3.add ((if wrap .i64 (i - 1) > 0 then wrap .i64 (i - 1) else 0).toNat * 3)))) (.pointer (some (a.add ((if wrap .i64 (i - 1) > 0 then wrap .i64 (i - 1) else 0).toNat * 3)))) (.nd (.int .i64 (if wrap .i64 (i - 1) > 0 then wrap .i64 (i - 1) else 0)) (.nd (.int .i64 (wrap .i64 (i - 1))) (.nd (.int .i64 i) (.loadS ((z0.add 0).add 6) fun p n_48 c => .ne (.slice p n_48 c) (.slice p_9 n_28 c_9) (.nd (.pointer (some ((z0.add 0).add 6))) (.nd (.pointer (some (z0.add 0))) (.nd (.int .i64 r_0) (.np 4 0 (.nd (.bool (decide (i > 0))) (.nd (.int .i64 i) (.ne (.bool (decide (r_0 < n))) (.bool false) (.loadI .i64 ((z0.add 0).add 0) fun n_49 => .ne (.int .i64 n_49) (.int .i64 n_8) (.nd (.pointer (some ((z0.add 0).add 0))) (.nd (.pointer (some (z0.add 0))) (.nd (.slice r_2p r_2n r_2c) (.np 4 2 (.np 4 1 (.nd (.bool (decide (r_0 < n))) (.loadI .i64 ((z0.add 0).add 2) fun n_50 => .ne (.int .i64 n_50) (.int .i64 n) (.nd (.pointer (some ((z0.add 0).add 2))) (.nd (.pointer (some (z0.add 0))) (.nd (.int .i64 r_0) (.np 4 0 (.np 4 0 (.call false 69 #[.slice r_2p r_2n r_2c,.int .i64 n_8] fun v => .unI .i64 v fun n_51 => .nd (.bool (decide (r_0 < n_29))) (.nd (.bool (decide (r_0 < n_29))) (.loadI .i64 ((a.add ((if wrap .i64 (i - 1) > 0 then wrap .i64 (i - 1) else 0).toNat * 3)).add 0) fun n_52 => .ne (.int .i64 n_52) (.int .i64 n_29) (.nd (.pointer (some ((a.add ((if wrap .i64 (i - 1) > 0 then wrap .i64 (i - 1) else 0).toNat * 3)).add 0))) (.need ((0 <= if wrap .i64 (i - 1) > 0 then wrap .i64 (i - 1) else 0) /\ (if wrap .i64 (i - 1) > 0 then wrap .i64 (i - 1) else 0) < (↑n_28:Int)) (.someA p_9 fun a_4 => .ne (.pointer (some (a_4.add ((if wrap .i64 (i - 1) > 0 then wrap .i64 (i - 1) else 0).toNat * 3)))) (.pointer (some (a.add ((if wrap .i64 (i - 1) > 0 then wrap .i64 (i - 1) else 0).toNat * 3)))) (.nd (.int .i64 (if wrap .i64 (i - 1) > 0 then wrap .i64 (i - 1) else 0)) (.nd (.int .i64 (wrap .i64 (i - 1))) (.nd (.int .i64 i) (.loadS ((z0.add 0).add 6) fun p n_53 c => .ne (.slice p n_53 c) (.slice p_9 n_28 c_9) (.nd (.pointer (some ((z0.add 0).add 6))) (.nd (.pointer (some (z0.add 0))) (.nd (.int .i64 r_0) (.np 4 0 (.nd (.bool (decide (i > 0))) (.nd (.int .i64 i) (.ne (.bool (decide (r_0 < n))) (.bool false) (.nd (.pointer (some ((z0.add 0).add 0))) (.nd (.pointer (some (z0.add 0))) (.np 4 2 (.np 4 1 (.nd (.bool (decide (r_0 < n))) (.loadI .i64 ((z0.add 0).add 2) fun n_54 => .ne (.int .i64 n_54) (.int .i64 n) (.nd (.pointer (some ((z0.add 0).add 2))) (.nd (.pointer (some (z0.add 0))) (.nd (.int .i64 r_0) (.np 4 0 (.np 4 0 (.sem false (Instr.buildSlice 247 4 #[(0,.int .i64 n_18),(1,.int .i64 n_30),(2,.int .i64 n_46),(3,.int .i64 n_51)]) fun v => .unS v fun a_5 n_55 c => .nd (.bool (decide (r_0 < n_29))) (.nd (.bool (decide (r_0 < n_29))) (.loadI .i64 ((a.add ((if wrap .i64 (i - 1) > 0 then wrap .i64 (i - 1) else 0).toNat * 3)).add 0) fun n_56 => .ne (.int .i64 n_56) (.int .i64 n_29) (.nd (.pointer (some ((a.add ((if wrap .i64 (i - 1) > 0 then wrap .i64 (i - 1) else 0).toNat * 3)).add 0))) (.need ((0 <= if wrap .i64 (i - 1) > 0 then wrap .i64 (i - 1) else 0) /\ (if wrap .i64 (i - 1) > 0 then wrap .i64 (i - 1) else 0) < (↑n_28:Int)) (.someA p_9 fun a_6 => .ne (.pointer (some (a_6.add ((if wrap .i64 (i - 1) > 0 then wrap .i64 (i - 1) else 0).toNat * 3)))) (.pointer (some (a.add ((if wrap .i64 (i - 1) > 0 then wrap .i64 (i - 1) else 0).toNat * 3)))) (.nd (.int .i64 (if wrap .i64 (i - 1) > 0 then wrap .i64 (i - 1) else 0)) (.nd (.int .i64 (wrap .i64 (i - 1))) (.nd (.int .i64 i) (.loadS ((z0.add 0).add 6) fun p n_57 c_14 => .ne (.slice p n_57 c_14) (.slice p_9 n_28 c_9) (.nd (.pointer (some ((z0.add 0).add 6))) (.nd (.pointer (some (z0.add 0))) (.nd (.int .i64 r_0) (.np 4 0 (.nd (.bool (decide (i > 0))) (.nd (.int .i64 i) (.ne (.bool (decide (r_0 < n))) (.bool false) (.nd (.pointer (some ((z0.add 0).add 0))) (.nd (.pointer (some (z0.add 0))) (.np 4 2 (.np 4 1 (.nd (.bool (decide (r_0 < n))) (.loadI .i64 ((z0.add 0).add 2) fun n_58 => .ne (.int .i64 n_58) (.int .i64 n) (.nd (.pointer (some ((z0.add 0).add 2))) (.nd (.pointer (some (z0.add 0))) (.nd (.int .i64 r_0) (.np 4 0 (.np 4 0 (.call false 110 #[.slice a_5 n_55 c] fun v => .unI .i64 v fun n_59 => .nd (.bool (decide (r_0 < n_29))) (.nd (.bool (decide (r_0 < n_29))) (.loadI .i64 ((a.add ((if wrap .i64 (i - 1) > 0 then wrap .i64 (i - 1) else 0).toNat * 3)).add 0) fun n_60 => .ne (.int .i64 n_60) (.int .i64 n_29) (.nd (.pointer (some ((a.add ((if wrap .i64 (i - 1) > 0 then wrap .i64 (i - 1) else 0).toNat * 3)).add 0))) (.need ((0 <= if wrap .i64 (i - 1) > 0 then wrap .i64 (i - 1) else 0) /\ (if wrap .i64 (i - 1) > 0 then wrap .i64 (i - 1) else 0) < (↑n_28:Int)) (.someA p_9 fun a_7 => .ne (.pointer (some (a_7.add ((if wrap .i64 (i - 1) > 0 then wrap .i64 (i - 1) else 0).toNat * 3)))) (.pointer (some (a.add ((if wrap .i64 (i - 1) > 0 then wrap .i64 (i - 1) else 0).toNat * 3)))) (.nd (.int .i64 (if wrap .i64 (i - 1) > 0 then wrap .i64 (i - 1) else 0)) (.nd (.int .i64 (wrap .i64 (i - 1))) (.nd (.int .i64 i) (.loadS ((z0.add 0).add 6) fun p n_61 c => .ne (.slice p n_61 c) (.slice p_9 n_28 c_9) (.nd (.pointer (some ((z0.add 0).add 6))) (.nd (.pointer (some (z0.add 0))) (.nd (.int .i64 r_0) (.np 4 0 (.nd (.bool (decide (i > 0))) (.nd (.int .i64 i) (.ne (.bool (decide (r_0 < n))) (.bool false) (.nd (.pointer (some ((z0.add 0).add 0))) (.nd (.pointer (some (z0.add 0))) (.np 4 2 (.np 4 1 (.nd (.bool (decide (r_0 < n))) (.loadI .i64 ((z0.add 0).add 2) fun n_62 => .ne (.int .i64 n_62) (.int .i64 n) (.nd (.pointer (some ((z0.add 0).add 2))) (.nd (.pointer (some (z0.add 0))) (.nd (.int .i64 r_0) (.np 4 0 (.np 4 0 (.leaf (.ret (.int .i64 n_59))))))))))))))))))))))))))))))))))))))))))))))))))))))))))))))))))))))))))))))))))))))))))))))))))))))))))))))))))))))))))))))))))))))))))))))))))))))))))))))))))))))))))))))))))) else .nd (.tuple #[]) (.nd (.tuple #[]) (.nd (.tuple #[]) (.nd (.tuple #[]) (.nd (.tuple #[]) (.nd (.bool (decide (i > 0))) (.nd (.int .i64 i) (.ne (.bool (decide (r_0 < n))) (.bool false) (.loadI .i64 ((z0.add 0).add 0) fun n_28 => .ne (.int .i64 n_28) (.int .i64 n_8) (.nd (.pointer (some ((z0.add 0).add 0))) (.nd (.pointer (some (z0.add 0))) (.nd (.slice r_2p r_2n r_2c) (.np 4 2 (.nd (.int .i64 r_1) (.np 4 1 (.loadI .i64 (z0.add 0) fun n_29 => .loadI .i64 (z0.add 1) fun n_30 => .loadI .i64 (z0.add 2) fun n_31 => .loadI .i64 (z0.add 3) fun n_32 => .loadS (z0.add 4) fun p_9 n_33 c_9 => .loadS (z0.add 5) fun p_10 n_34 c_10 => .loadS (z0.add 6) fun p_11 n_35 c_11 => .ne (.agg #[.int .i64 n_29,.int .i64 n_30,.int .i64 n_31,.int .i64 n_32,.slice p_9 n_33 c_9,.slice p_10 n_34 c_10,.slice p_11 n_35 c_11]) (.agg #[.int .i64 n_1,.int .i64 n_2,.int .i64 n_3,.int .i64 n_4,.slice p n_5 c,.slice p_1 n_6 c_1,.slice p_2 n_7 c_2]) (.nd (.bool (decide (r_0 < n))) (.loadI .i64 ((z0.add 0).add 2) fun n_36 => .ne (.int .i64 n_36) (.int .i64 n) (.nd (.pointer (some ((z0.add 0).add 2))) (.nd (.pointer (some (z0.add 0))) (.nd (.int .i64 r_0) (.np 4 0 (.np 4 0 (.nd (.tuple #[]) (.nd (.tuple #[]) (.nd (.tuple #[]) (.nd (.tuple #[]) (.nd (.tuple #[]) (.nd (.bool (decide (i > 0))) (.nd (.int .i64 i) (.ne (.bool (decide (r_0 < n))) (.bool false) (.loadI .i64 ((z0.add 0).add 0) fun n_37 => .ne (.int .i64 n_37) (.int .i64 n_8) (.nd (.pointer (some ((z0.add 0).add 0))) (.nd (.pointer (some (z0.add 0))) (.nd (.slice r_2p r_2n r_2c) (.np 4 2 (.nd (.int .i64 r_1) (.np 4 1 (.loadI .i64 (z0.add 0) fun n_38 => .loadI .i64 (z0.add 1) fun n_39 => .loadI .i64 (z0.add 2) fun n_40 => .loadI .i64 (z0.add 3) fun n_41 => .loadS (z0.add 4) fun p_12 n_42 c_12 => .loadS (z0.add 5) fun p_13 n_43 c_13 => .loadS (z0.add 6) fun p_14 n_44 c_14 => .ne (.agg #[.int .i64 n_38,.int .i64 n_39,.int .i64 n_40,.int .i64 n_41,.slice p_12 n_42 c_12,.slice p_13 n_43 c_13,.slice p_14 n_44 c_14]) (.agg #[.int .i64 n_1,.int .i64 n_2,.int .i64 n_3,.int .i64 n_4,.slice p n_5 c,.slice p_1 n_6 c_1,.slice p_2 n_7 c_2]) (.nd (.bool (decide (r_0 < n))) (.loadI .i64 ((z0.add 0).add 2) fun n_45 => .ne (.int .i64 n_45) (.int .i64 n) (.nd (.pointer (some ((z0.add 0).add 2))) (.nd (.pointer (some (z0.add 0))) (.nd (.int .i64 r_0) (.np 4 0 (.np 4 0 (.nd (.tuple #[]) (.nd (.tuple #[]) (.nd (.tuple #[]) (.nd (.tuple #[]) (.nd (.tuple #[]) (.nd (.tuple #[]) (.nd (.bool (decide (i > 0))) (.nd (.int .i64 i) (.ne (.bool (decide (r_0 < n))) (.bool false) (.loadI .i64 ((z0.add 0).add 0) fun n_46 => .ne (.int .i64 n_46) (.int .i64 n_8) (.nd (.pointer (some ((z0.add 0).add 0))) (.nd (.pointer (some (z0.add 0))) (.nd (.slice r_2p r_2n r_2c) (.np 4 2 (.nd (.int .i64 r_1) (.np 4 1 (.loadI .i64 (z0.add 0) fun n_47 => .loadI .i64 (z0.add 1) fun n_48 => .loadI .i64 (z0.add 2) fun n_49 => .loadI .i64 (z0.add 3) fun n_50 => .loadS (z0.add 4) fun p_15 n_51 c_15 => .loadS (z0.add 5) fun p_16 n_52 c_16 => .loadS (z0.add 6) fun p_17 n_53 c_17 => .ne (.agg #[.int .i64 n_47,.int .i64 n_48,.int .i64 n_49,.int .i64 n_50,.slice p_15 n_51 c_15,.slice p_16 n_52 c_16,.slice p_17 n_53 c_17]) (.agg #[.int .i64 n_1,.int .i64 n_2,.int .i64 n_3,.int .i64 n_4,.slice p n_5 c,.slice p_1 n_6 c_1,.slice p_2 n_7 c_2]) (.nd (.bool (decide (r_0 < n))) (.loadI .i64 ((z0.add 0).add 2) fun n_54 => .ne (.int .i64 n_54) (.int .i64 n) (.nd (.pointer (some ((z0.add 0).add 2))) (.nd (.pointer (some (z0.add 0))) (.nd (.int .i64 r_0) (.np 4 0 (.np 4 0 (.call false 101 #[.bool false,.int .i64 7] fun v => .unI .i64 v fun n_55 => .nd (.bool false) (.nd (.tuple #[]) (.nd (.tuple #[]) (.nd (.tuple #[]) (.nd (.tuple #[]) (.nd (.tuple #[]) (.nd (.tuple #[]) (.nd (.bool (decide (i > 0))) (.nd (.int .i64 i) (.ne (.bool (decide (r_0 < n))) (.bool false) (.loadI .i64 ((z0.add 0).add 0) fun n_56 => .ne (.int .i64 n_56) (.int .i64 n_8) (.nd (.pointer (some ((z0.add 0).add 0))) (.nd (.pointer (some (z0.add 0))) (.nd (.slice r_2p r_2n r_2c) (.np 4 2 (.nd (.int .i64 r_1) (.np 4 1 (.loadI .i64 (z0.add 0) fun n_57 => .loadI .i64 (z0.add 1) fun n_58 => .loadI .i64 (z0.add 2) fun n_59 => .loadI .i64 (z0.add 3) fun n_60 => .loadS (z0.add 4) fun p_18 n_61 c_18 => .loadS (z0.add 5) fun p_19 n_62 c_19 => .loadS (z0.add 6) fun p_20 n_63 c_20 => .ne (.agg #[.int .i64 n_57,.int .i64 n_58,.int .i64 n_59,.int .i64 n_60,.slice p_18 n_61 c_18,.slice p_19 n_62 c_19,.slice p_20 n_63 c_20]) (.agg #[.int .i64 n_1,.int .i64 n_2,.int .i64 n_3,.int .i64 n_4,.slice p n_5 c,.slice p_1 n_6 c_1,.slice p_2 n_7 c_2]) (.nd (.bool (decide (r_0 < n))) (.loadI .i64 ((z0.add 0).add 2) fun n_64 => .ne (.int .i64 n_64) (.int .i64 n) (.nd (.pointer (some ((z0.add 0).add 2))) (.nd (.pointer (some (z0.add 0))) (.nd (.int .i64 r_0) (.np 4 0 (.np 4 0 (.call false 104 #[.agg #[.int .i64 n_1,.int .i64 n_2,.int .i64 n_3,.int .i64 n_4,.slice p n_5 c,.slice p_1 n_6 c_1,.slice p_2 n_7 c_2],.int .i64 r_1] fun v => .unB v fun b => .nd (.bool false) (.nd (.tuple #[]) (.nd (.tuple #[]) (.nd (.tuple #[]) (.nd (.tuple #[]) (.nd (.tuple #[]) (.nd (.tuple #[]) (.nd (.bool (decide (i > 0))) (.nd (.int .i64 i) (.ne (.bool (decide (r_0 < n))) (.bool false) (.loadI .i64 ((z0.add 0).add 0) fun n_65 => .ne (.int .i64 n_65) (.int .i64 n_8) (.nd (.pointer (some ((z0.add 0).add 0))) (.nd (.pointer (some (z0.add 0))) (.nd (.slice r_2p r_2n r_2c) (.np 4 2 (.np 4 1 (.nd (.bool (decide (r_0 < n))) (.loadI .i64 ((z0.add 0).add 2) fun n_66 => .ne (.int .i64 n_66) (.int .i64 n) (.nd (.pointer (some ((z0.add 0).add 2))) (.nd (.pointer (some (z0.add 0))) (.nd (.int .i64 r_0) (.np 4 0 (.np 4 0 (.call false 101 #[.bool !b,.int .i64 6] fun v => .unI .i64 v fun n_67 => .nd (.bool false) (.nd (.tuple #[]) (.nd (.tuple #[]) (.nd (.tuple #[]) (.nd (.tuple #[]) (.nd (.tuple #[]) (.nd (.tuple #[]) (.nd (.bool (decide (i > 0))) (.nd (.int .i64 i) (.ne (.bool (decide (r_0 < n))) (.bool false) (.loadI .i64 ((z0.add 0).add 0) fun n_68 => .ne (.int .i64 n_68) (.int .i64 n_8) (.nd (.pointer (some ((z0.add 0).add 0))) (.nd (.pointer (some (z0.add 0))) (.nd (.slice r_2p r_2n r_2c) (.np 4 2 (.np 4 1 (.nd (.bool (decide (r_0 < n))) (.loadI .i64 ((z0.add 0).add 2) fun n_69 => .ne (.int .i64 n_69) (.int .i64 n) (.nd (.pointer (some ((z0.add 0).add 2))) (.nd (.pointer (some (z0.add 0))) (.nd (.int .i64 r_0) (.np 4 0 (.np 4 0 (.call false 69 #[.slice r_2p r_2n r_2c,.int .i64 n_8] fun v => .unI .i64 v fun n_70 => .nd (.bool false) (.nd (.tuple #[]) (.nd (.tuple #[]) (.nd (.tuple #[]) (.nd (.tuple #[]) (.nd (.tuple #[]) (.nd (.tuple #[]) (.nd (.bool (decide (i > 0))) (.nd (.int .i64 i) (.ne (.bool (decide (r_0 < n))) (.bool false) (.nd (.pointer (some ((z0.add 0).add 0))) (.nd (.pointer (some (z0.add 0))) (.np 4 2 (.np 4 1 (.nd (.bool (decide (r_0 < n))) (.loadI .i64 ((z0.add 0).add 2) fun n_71 => .ne (.int .i64 n_71) (.int .i64 n) (.nd (.pointer (some ((z0.add 0).add 2))) (.nd (.pointer (some (z0.add 0))) (.nd (.int .i64 r_0) (.np 4 0 (.np 4 0 (.sem false (Instr.buildSlice 247 4 #[(0,.int .i64 n_18),(1,.int .i64 n_55),(2,.int .i64 n_67),(3,.int .i64 n_70)]) fun v => .unS v fun a n_72 c => .nd (.bool false) (.nd (.tuple #[]) (.nd (.tuple #[]) (.nd (.tuple #[]) (.nd (.tuple #[]) (.nd (.tuple #[]) (.nd (.tuple #[]) (.nd (.bool (decide (i > 0))) (.nd (.int .i64 i) (.ne (.bool (decide (r_0 < n))) (.bool false) (.nd (.pointer (some ((z0.add 0).add 0))) (.nd (.pointer (some (z0.add 0))) (.np 4 2 (.np 4 1 (.nd (.bool (decide (r_0 < n))) (.loadI .i64 ((z0.add 0).add 2) fun n_73 => .ne (.int .i64 n_73) (.int .i64 n) (.nd (.pointer (some ((z0.add 0).add 2))) (.nd (.pointer (some (z0.add 0))) (.nd (.int .i64 r_0) (.np 4 0 (.np 4 0 (.call false 110 #[.slice a n_72 c] fun v => .unI .i64 v fun n_74 => .nd (.bool false) (.nd (.tuple #[]) (.nd (.tuple #[]) (.nd (.tuple #[]) (.nd (.tuple #[]) (.nd (.tuple #[]) (.nd (.tuple #[]) (.nd (.bool (decide (i > 0))) (.nd (.int .i64 i) (.ne (.bool (decide (r_0 < n))) (.bool false) (.nd (.pointer (some ((z0.add 0).add 0))) (.nd (.pointer (some (z0.add 0))) (.np 4 2 (.np 4 1 (.nd (.bool (decide (r_0 < n))) (.loadI .i64 ((z0.add 0).add 2) fun n_75 => .ne (.int .i64 n_75) (.int .i64 n) (.nd (.pointer (some ((z0.add 0).add 2))) (.nd (.pointer (some (z0.add 0))) (.nd (.int .i64 r_0) (.np 4 0 (.np 4 0 (.leaf (.ret (.int .i64 n_74))))))))))))))))))))))))))))))))))))))))))))))))))))))))))))))))))))))))))))))))))))))))))))))))))))))))))))))))))))))))))))))))))))))))))))))))))))))))))))))))))))))))))))))))))))))))))))))))))))))))))))))))))))))))))))))))))))))))))))
theorem w136 (i r_0 r_1:Int) (r_2p:Option Addr) (r_2n r_2c:Nat) (z0:Addr):FX X 247 #[.int .i64 i,.agg #[.int .i64 r_0,.int .i64 r_1,.slice r_2p r_2n r_2c],.pointer (some z0)] h A (n136 i r_0 r_1 r_2p r_2n r_2c z0) := fk [4] [] [] Tryz.f247
end Go.Proofs.YtfkfohpnpljihaaGreatDoor
end
section
namespace Go.Proofs.YtfkfohpnpljihaaGreatDoor
open Go Go.TM Go.Proofs
attribute [local irreducible] T.wp CV FWK
theorem c81 {h:LH} (n a b:Int):Pu Tryz.prog 99 #[.int .i64 n,.int .i64 a,.int .i64 b] h (.bool (isIn n a b)) := by
 refine w81 _ _ _ X0_ok ?_
 unfold n81
 refine t_if (fun e => ?_) (fun e => ?_) <;> refine t_ret ⟨?_,rfl⟩ <;> simp [isIn,e]
theorem c83 {h:LH} (b:Bool) (n:Int):Pu Tryz.prog 101 #[.bool b,.int .i64 n] h (.int .i64 (if b then n else 0)) := by
 refine w83 _ _ X0_ok ?_
 unfold n83
 refine t_cond (fun e => ?_) (fun e => ?_) <;> refine t_ret ⟨?_,rfl⟩ <;> simp [e]
theorem c84 {h:LH} (n:Int):Pu Tryz.prog 102 #[.int .i64 n] h (.bool (isIn n 0 2000)) := by
 refine w84 _ X0_ok ?_
 unfold n84
 refine t_pu (c81 _ _ _) ?_
 refine gZ ?_
 exact t_ret ⟨rfl,rfl⟩
theorem c132 {h:LH} (a b:Int):Pu Tryz.prog 243 #[.agg #[.int .i64 a,.int .i64 b]] h (.bool (isSpan ⟨a,b⟩)) := by
 refine w132 _ _ X0_ok ?_
 unfold n132
 refine t_pu (c84 _) ?_
 refine gZ ?_
 refine t_cond (fun e => ?_) (fun e => ?_)
 ·refine t_pu (c84 _) ?_
  refine gZ ?_
  refine t_cond (fun e' => ?_) (fun e' => ?_) <;> refine t_ret ⟨?_,rfl⟩ <;> simp [isSpan,isDay,e,e']
 ·refine t_ret ⟨?_,rfl⟩; simp [isSpan,isDay,e]
theorem c96 {h:LH} {p:Option Addr} {n c:Nat} {l:List Int} (hl:Sl IntE 1 h.get p n l):Pu Tryz.prog 110 #[.slice p n c] h (.int .i64 (firstF (fun _ x => x) 0 l)) := by
 refine w96 _ _ _ X0_ok ?_
 unfold n96
 have hn := hl.1
 have hb := hl.2.1
 refine t_loop (fun m vs h' => h' = h /\ ∃ i:Nat,vs = [.int .i64 0,.int .i64 i] /\ i <= n /\ m = n - i /\ firstF (fun _ x => x) 0 l = firstF (fun _ x => x) i (l.drop i)) ⟨rfl,0,rfl,Nat.zero_le _,rfl,rfl⟩ ?_
 rintro Y m vs _ hY ⟨rfl,i,rfl,hi,rfl,hc⟩
 refine gZ ?_
 refine t_if (fun e1 => ?_) (fun e1 => ?_)
 ·obtain ⟨x,a,hx,ha,e2⟩ := hl.at (i := i) (by omega)
  unfold IntE at e2
  refine gZ ?_
  rw [drop_of hx] at hc
  refine t_cond (fun e3 => ?_) (fun e3 => ?_)
  ·refine gZ ?_
   refine t_ret ⟨?_,rfl⟩
   rw [hc,firstF,if_pos (by simpa using e3)]
  ·refine t_again (hY (n - (i + 1)) _ _ (by omega) ⟨rfl,i + 1,?_,by omega,rfl,?_⟩)
   ·rw [wrap_id (by omega) (by omega)]; rfl
   ·rw [hc,firstF,if_neg (by simpa using e3)]
 ·refine gZ ?_
  refine t_ret ⟨?_,rfl⟩
  rw [hc,List.drop_eq_nil_of_le (by omega)]; rfl
theorem c94 {h:LH} {p:Option Addr} {n c:Nat} {l:List Int} {most:Int} {flaw:Value} {g:Nat -> Int -> Int} (hl:Sl IntE 1 h.get p n l) (hf:∀ (i:Nat) x h',h.le h' -> l[i]? = some x -> ∀ v,v = .int .i64 x -> CV X0 Tryz.prog flaw #[.int .i64 i,v] h' fun r h'' => h'.le h'' /\ r = .int .i64 (g i x)) :
  Gr Tryz.prog 108 #[.slice p n c,.int .i64 most,flaw] h fun r _ => r = .int .i64 (eachF most g l) := by
 refine w94 _ _ _ _ _ X0_ok ?_
 unfold n94
 have hn := hl.1
 have hb := hl.2.1
 refine t_if (fun e0 => ?_) (fun e0 => ?_)
 ·refine t_ret ⟨LH.le_refl _,?_⟩
  rw [eachF,if_pos (by omega)]
 refine t_loop (fun m vs h' => h.le h' /\ ∃ i:Nat,vs = [.int .i64 0,.int .i64 i] /\ i <= n /\ m = n - i /\ firstF g 0 l = firstF g i (l.drop i)) ⟨LH.le_refl _,0,rfl,Nat.zero_le _,rfl,rfl⟩ ?_
 rintro Y m vs h₁ hY ⟨hle,i,rfl,hi,rfl,hc⟩
 refine gZ ?_
 refine t_if (fun e1 => ?_) (fun e1 => ?_)
 ·obtain ⟨x,a,hx,ha,e2⟩ := (hl.le IntE.grow hle.1).at (i := i) (by omega)
  unfold IntE at e2
  refine gZ ?_
  refine t_callv (hf i x h₁ hle hx _ rfl) ?_
  rintro _ h₂ ⟨hle2,rfl⟩
  refine gZ ?_
  rw [drop_of hx] at hc
  refine t_cond (fun e3 => ?_) (fun e3 => ?_)
  ·refine gZ ?_
   refine t_ret ⟨LH.le_trans hle hle2,?_⟩
   rw [eachF,if_neg (by omega),hc,firstF,if_pos (by simpa using e3)]
  ·refine t_again (hY (n - (i + 1)) _ _ (by omega) ⟨LH.le_trans hle hle2,i + 1,?_,by omega,rfl,?_⟩)
   ·rw [wrap_id (by omega) (by omega)]; rfl
   ·rw [hc,firstF,if_neg (by simpa using e3)]
 ·refine gZ ?_
  refine t_ret ⟨hle,?_⟩
  rw [eachF,if_neg (by omega),hc,List.drop_eq_nil_of_le (by omega)]; rfl
theorem c130 {h:LH} {p:Option Addr} {n c:Nat} {l:List Span} {most:Int} {flaw:Value} {g:Nat -> Span -> Int} (hl:Sl SpanE 2 h.get p n l) (hf:∀ (i:Nat) x h',h.le h' -> l[i]? = some x -> ∀ v,v = .agg #[.int .i64 x.first,.int .i64 x.last] -> CV X0 Tryz.prog flaw #[.int .i64 i,v] h' fun r h'' => h'.le h'' /\ r = .int .i64 (g i x)) :
  Gr Tryz.prog 241 #[.slice p n c,.int .i64 most,flaw] h fun r _ => r = .int .i64 (eachF most g l) := by
 refine w130 _ _ _ _ _ X0_ok ?_
 unfold n130
 have hn := hl.1
 have hb := hl.2.1
 refine t_if (fun e0 => ?_) (fun e0 => ?_)
 ·refine t_ret ⟨LH.le_refl _,?_⟩
  rw [eachF,if_pos (by omega)]
 refine t_loop (fun m vs h' => h.le h' /\ ∃ i:Nat,vs = [.int .i64 0,.int .i64 i] /\ i <= n /\ m = n - i /\ firstF g 0 l = firstF g i (l.drop i)) ⟨LH.le_refl _,0,rfl,Nat.zero_le _,rfl,rfl⟩ ?_
 rintro Y m vs h₁ hY ⟨hle,i,rfl,hi,rfl,hc⟩
 refine gZ ?_
 refine t_if (fun e1 => ?_) (fun e1 => ?_)
 ·obtain ⟨x,a,hx,ha,e2⟩ := (hl.le SpanE.grow hle.1).at (i := i) (by omega)
  obtain ⟨e2,e4⟩ := e2
  refine gZ ?_
  refine t_callv (hf i x h₁ hle hx _ rfl) ?_
  rintro _ h₂ ⟨hle2,rfl⟩
  refine gZ ?_
  rw [drop_of hx] at hc
  refine t_cond (fun e3 => ?_) (fun e3 => ?_)
  ·refine gZ ?_
   refine t_ret ⟨LH.le_trans hle hle2,?_⟩
   rw [eachF,if_neg (by omega),hc,firstF,if_pos (by simpa using e3)]
  ·refine t_again (hY (n - (i + 1)) _ _ (by omega) ⟨LH.le_trans hle hle2,i + 1,?_,by omega,rfl,?_⟩)
   ·rw [wrap_id (by omega) (by omega)]; rfl
   ·rw [hc,firstF,if_neg (by simpa using e3)]
 ·refine gZ ?_
  refine t_ret ⟨hle,?_⟩
  rw [eachF,if_neg (by omega),hc,List.drop_eq_nil_of_le (by omega)]; rfl
theorem c133 {h:LH} {p:Option Addr} {n c:Nat} {l:List Paper} {most:Int} {flaw:Value} {g:Nat -> Paper -> Int} (hl:Sl PaperE 4 h.get p n l) (hf:∀ (i:Nat) x h',h.le h' -> l[i]? = some x -> ∀ v,(∃ q m d,v = .agg #[.int .i64 x.days.first,.int .i64 x.days.last,.int .i64 x.land,.slice q m d] /\ Sl IntE 1 h'.get q m x.items) -> CV X0 Tryz.prog flaw #[.int .i64 i,v] h' fun r h'' => h'.le h'' /\ r = .int .i64 (g i x)) :
  Gr Tryz.prog 244 #[.slice p n c,.int .i64 most,flaw] h fun r _ => r = .int .i64 (eachF most g l) := by
 refine w133 _ _ _ _ _ X0_ok ?_
 unfold n133
 have hn := hl.1
 have hb := hl.2.1
 refine t_if (fun e0 => ?_) (fun e0 => ?_)
 ·refine t_ret ⟨LH.le_refl _,?_⟩
  rw [eachF,if_pos (by omega)]
 refine t_loop (fun m vs h' => h.le h' /\ ∃ i:Nat,vs = [.int .i64 0,.int .i64 i] /\ i <= n /\ m = n - i /\ firstF g 0 l = firstF g i (l.drop i)) ⟨LH.le_refl _,0,rfl,Nat.zero_le _,rfl,rfl⟩ ?_
 rintro Y m vs h₁ hY ⟨hle,i,rfl,hi,rfl,hc⟩
 refine gZ ?_
 refine t_if (fun e1 => ?_) (fun e1 => ?_)
 ·obtain ⟨x,a,hx,ha,e2⟩ := (hl.le PaperE.grow hle.1).at (i := i) (by omega)
  obtain ⟨e2,e4,e5,q,m,d,e7,e8⟩ := e2
  refine gZ ?_
  refine t_callv (hf i x h₁ hle hx _ ⟨_,_,_,rfl,e8⟩) ?_
  rintro _ h₂ ⟨hle2,rfl⟩
  refine gZ ?_
  rw [drop_of hx] at hc
  refine t_cond (fun e3 => ?_) (fun e3 => ?_)
  ·refine gZ ?_
   refine t_ret ⟨LH.le_trans hle hle2,?_⟩
   rw [eachF,if_neg (by omega),hc,firstF,if_pos (by simpa using e3)]
  ·refine t_again (hY (n - (i + 1)) _ _ (by omega) ⟨LH.le_trans hle hle2,i + 1,?_,by omega,rfl,?_⟩)
   ·rw [wrap_id (by omega) (by omega)]; rfl
   ·rw [hc,firstF,if_neg (by simpa using e3)]
 ·refine gZ ?_
  refine t_ret ⟨hle,?_⟩
  rw [eachF,if_neg (by omega),hc,List.drop_eq_nil_of_le (by omega)]; rfl
theorem c135 {h:LH} {p:Option Addr} {n c:Nat} {l:List Request} {most:Int} {flaw:Value} {g:Nat -> Request -> Int} (hl:Sl RequestE 3 h.get p n l) (hf:∀ (i:Nat) x h',h.le h' -> l[i]? = some x -> ∀ v,(∃ q m d,v = .agg #[.int .i64 x.day,.int .i64 x.land,.slice q m d] /\ Sl IntE 1 h'.get q m x.items) -> CV X0 Tryz.prog flaw #[.int .i64 i,v] h' fun r h'' => h'.le h'' /\ r = .int .i64 (g i x)) :
  Gr Tryz.prog 246 #[.slice p n c,.int .i64 most,flaw] h fun r _ => r = .int .i64 (eachF most g l) := by
 refine w135 _ _ _ _ _ X0_ok ?_
 unfold n135
 have hn := hl.1
 have hb := hl.2.1
 refine t_if (fun e0 => ?_) (fun e0 => ?_)
 ·refine t_ret ⟨LH.le_refl _,?_⟩
  rw [eachF,if_pos (by omega)]
 refine t_loop (fun m vs h' => h.le h' /\ ∃ i:Nat,vs = [.int .i64 0,.int .i64 i] /\ i <= n /\ m = n - i /\ firstF g 0 l = firstF g i (l.drop i)) ⟨LH.le_refl _,0,rfl,Nat.zero_le _,rfl,rfl⟩ ?_
 rintro Y m vs h₁ hY ⟨hle,i,rfl,hi,rfl,hc⟩
 refine gZ ?_
 refine t_if (fun e1 => ?_) (fun e1 => ?_)
 ·obtain ⟨x,a,hx,ha,e2⟩ := (hl.le RequestE.grow hle.1).at (i := i) (by omega)
  obtain ⟨e2,e4,q,m,d,e7,e8⟩ := e2
  refine gZ ?_
  refine t_callv (hf i x h₁ hle hx _ ⟨_,_,_,rfl,e8⟩) ?_
  rintro _ h₂ ⟨hle2,rfl⟩
  refine gZ ?_
  rw [drop_of hx] at hc
  refine t_cond (fun e3 => ?_) (fun e3 => ?_)
  ·refine gZ ?_
   refine t_ret ⟨LH.le_trans hle hle2,?_⟩
   rw [eachF,if_neg (by omega),hc,firstF,if_pos (by simpa using e3)]
  ·refine t_again (hY (n - (i + 1)) _ _ (by omega) ⟨LH.le_trans hle hle2,i + 1,?_,by omega,rfl,?_⟩)
   ·rw [wrap_id (by omega) (by omega)]; rfl
   ·rw [hc,firstF,if_neg (by simpa using e3)]
 ·refine gZ ?_
  refine t_ret ⟨hle,?_⟩
  rw [eachF,if_neg (by omega),hc,List.drop_eq_nil_of_le (by omega)]; rfl
theorem flaws2 {h:LH} {X:XP} {Q:Leaf -> LH -> Prop} {k:Value -> T} {a b:Int} (hk:∀ r h',h.le h' -> Sl IntE 1 h'.get (some ⟨r,0,none⟩) 2 [a,b] -> (k (.slice (some ⟨r,0,none⟩) 2 2)).wp X Tryz.prog Q h'):(T.sem false (Instr.buildSlice 247 2 #[(0,.int .i64 a),(1,.int .i64 b)]) k).wp X Tryz.prog Q h := by
 refine t_build und134 inf31 (by decide) (by decide) (cells := #[.int .i64 a,.int .i64 b]) (by kernel_rfl) fun r hr => ?_
 refine hk r _ (LH.upd_le hr) ⟨rfl,by show 2 < _; omega,?_⟩
 intro i x hx
 refine ⟨_,rfl,?_⟩
 show Cells.cell? _ _ = _
 rw [add_plain,add_plain]
 refine cell_upd ?_
 match i,hx with
 | 0,hx => simp at hx; subst hx; rfl
 | 1,hx => simp at hx; subst hx; rfl
 | i + 2,hx => simp at hx
theorem flaws3 {h:LH} {X:XP} {Q:Leaf -> LH -> Prop} {k:Value -> T} {a b d:Int} (hk:∀ r h',h.le h' -> Sl IntE 1 h'.get (some ⟨r,0,none⟩) 3 [a,b,d] -> (k (.slice (some ⟨r,0,none⟩) 3 3)).wp X Tryz.prog Q h'):(T.sem false (Instr.buildSlice 247 3 #[(0,.int .i64 a),(1,.int .i64 b),(2,.int .i64 d)]) k).wp X Tryz.prog Q h := by
 refine t_build und134 inf31 (by decide) (by decide) (cells := #[.int .i64 a,.int .i64 b,.int .i64 d]) (by kernel_rfl) fun r hr => ?_
 refine hk r _ (LH.upd_le hr) ⟨rfl,by show 3 < _; omega,?_⟩
 intro i x hx
 refine ⟨_,rfl,?_⟩
 show Cells.cell? _ _ = _
 rw [add_plain,add_plain]
 refine cell_upd ?_
 match i,hx with
 | 0,hx => simp at hx; subst hx; rfl
 | 1,hx => simp at hx; subst hx; rfl
 | 2,hx => simp at hx; subst hx; rfl
 | i + 3,hx => simp at hx
theorem flaws4 {h:LH} {X:XP} {Q:Leaf -> LH -> Prop} {k:Value -> T} {a b d e:Int} (hk:∀ r h',h.le h' -> Sl IntE 1 h'.get (some ⟨r,0,none⟩) 4 [a,b,d,e] -> (k (.slice (some ⟨r,0,none⟩) 4 4)).wp X Tryz.prog Q h'):(T.sem false (Instr.buildSlice 247 4 #[(0,.int .i64 a),(1,.int .i64 b),(2,.int .i64 d),(3,.int .i64 e)]) k).wp X Tryz.prog Q h := by
 refine t_build und134 inf31 (by decide) (by decide) (cells := #[.int .i64 a,.int .i64 b,.int .i64 d,.int .i64 e]) (by kernel_rfl) fun r hr => ?_
 refine hk r _ (LH.upd_le hr) ⟨rfl,by show 4 < _; omega,?_⟩
 intro i x hx
 refine ⟨_,rfl,?_⟩
 show Cells.cell? _ _ = _
 rw [add_plain,add_plain]
 refine cell_upd ?_
 match i,hx with
 | 0,hx => simp at hx; subst hx; rfl
 | 1,hx => simp at hx; subst hx; rfl
 | 2,hx => simp at hx; subst hx; rfl
 | 3,hx => simp at hx; subst hx; rfl
 | i + 4,hx => simp at hx
theorem c95 {h:LH} {z0 z1:Addr} {below:Int} {p:Option Addr} {m c:Nat} {l:List Int} (h0:h.get.cell? z0 = some (.int .i64 below)) (h1:h.get.cell? z1 = some (.slice p m c)) (hl:Sl IntE 1 h.get p m l) (hb:IsI (below - 1)) (i:Nat) (x:Int) (hx:l[i]? = some x) :
  Gr Tryz.prog 109 #[.int .i64 i,.int .i64 x,.pointer (some z0),.pointer (some z1)] h fun r _ => r = .int .i64 (riseF l below i x) := by
 refine w95 _ _ _ _ X0_ok ?_
 unfold n95
 have hi:i < l.length := (List.getElem?_eq_some_iff.1 hx).1
 have hlen := hl.2.1
 refine gZ ?_
 rw [wrap_id hb.1 hb.2]
 refine t_pu (c81 _ _ _) ?_
 refine gZ ?_
 refine t_pu (c83 _ _) ?_
 refine gZ ?_
 refine t_if (fun e1 => ?_) (fun e1 => ?_)
 ·rw [wrap_id (by omega) (by omega)]
  have e2:(if (i:Int) - 1 > 0 then (i:Int) - 1 else 0) = ((i - 1:Nat):Int) := by split <;> omega
  rw [e2]
  obtain ⟨y,a,hy,ha,e3⟩ := hl.at (i := i - 1) (by have := hl.1; omega)
  unfold IntE at e3
  have := hl.1
  refine gZ ?_
  refine t_pu (c83 _ _) ?_
  refine gZ ?_
  refine flaws2 fun r h' hle hs => ?_
  refine gZ ?_
  refine t_pu (c96 hs) ?_
  refine gZ ?_
  refine t_ret ⟨hle,?_⟩
  simp [firstF,riseF,hy,show 0 < i by omega]
  split <;> simp_all
 ·refine t_pu (c83 _ _) ?_
  refine gZ ?_
  refine flaws2 fun r h' hle hs => ?_
  refine gZ ?_
  refine t_pu (c96 hs) ?_
  refine gZ ?_
  refine t_ret ⟨hle,?_⟩
  simp [firstF,riseF,show ¬ 0 < i by omega]
theorem c70 {h:LH} {below:Int} {p:Option Addr} {n c:Nat} {l:List Int} (hl:Sl IntE 1 h.get p n l) (hb:IsI (below - 1)):Gr Tryz.prog 69 #[.slice p n c,.int .i64 below] h fun r _ => r = .int .i64 (risesF l below) := by
 refine w70 _ _ _ _ X0_ok ?_
 unfold n70
 refine t_new fun r hr => ?_
 refine t_new fun r1 hr1 => ?_
 have le1:h.le { h with get := h.get.upd r (true,.cells #[.slice p n c] 30 (0,0)) } := LH.upd_le hr
 have le2 := LH.upd_le (x := (true,.cells #[.int .i64 below] 3 (0,0))) hr1
 have f0:Cells.cell? (h.get.upd r (true,.cells #[.slice p n c] 30 (0,0))) ⟨r,0,none⟩ = some (.slice p n c) := cell_upd rfl
 have f1:Cells.cell? ((h.get.upd r (true,.cells #[.slice p n c] 30 (0,0))).upd r1 (true,.cells #[.int .i64 below] 3 (0,0))) ⟨r1,0,none⟩ = some (.int .i64 below) := cell_upd rfl
 have f2 := Cells.cell?_le le2.1 f0
 refine gL1 f2 ?_
 refine gL1 f2 ?_
 have hl2 := hl.le IntE.grow (LH.le_trans le1 le2).1
 refine t_gr (c94 (g := riseF l below) hl2 ?_) ?_
 ·rintro i x h' hle hx _ rfl
  exact cv_fw X0_ok (by rfl) (c95 (Cells.cell?_le hle.1 f1) (Cells.cell?_le hle.1 f2) (hl2.le IntE.grow hle.1) hb i x hx)
 ·rintro _ h' hle rfl
  refine gZ ?_
  refine t_ret ⟨LH.le_trans (LH.le_trans le1 le2) hle,?_⟩
  rw [risesF,eachF,if_neg (by have := hl.1; omega)]
theorem c126 {h:LH} {f:FileC} {u:UseFile}:Pu Tryz.prog 237 #[fileV f u] h (.int .i64 (numbersF u)) := by
 refine w126 _ _ _ _ _ _ _ _ _ _ _ _ _ X0_ok ?_
 unfold n126
 refine t_pu (c81 _ _ _) ?_
 refine gZ ?_
 refine t_cond (fun e1 => ?_) (fun e1 => ?_)
 ·refine t_pu (c83 _ _) ?_
  refine gZ ?_
  refine t_ret ⟨?_,rfl⟩
  simp at e1; simp [numbersF,e1]
 refine t_pu (c81 _ _ _) ?_
 refine gZ ?_
 refine t_cond (fun e2 => ?_) (fun e2 => ?_)
 ·refine t_pu (c83 _ _) ?_
  refine gZ ?_
  refine t_ret ⟨?_,rfl⟩
  simp at e2; simp [numbersF,e2]
 refine t_pu (c84 _) ?_
 refine gZ ?_
 refine t_cond (fun e3 => ?_) (fun e3 => ?_)
 ·refine t_pu (c83 _ _) ?_
  refine gZ ?_
  refine t_ret ⟨?_,rfl⟩
  simp at e3; simp [numbersF,isDay,e3]
 refine t_pu (c81 _ _ _) ?_
 refine gZ ?_
 refine t_pu (c83 _ _) ?_
 refine gZ ?_
 refine t_ret ⟨?_,rfl⟩
 simp at e1 e2 e3; simp [numbersF,isDay,e1,e2,e3]
 split <;> simp_all
theorem c131 {h:LH} (i:Int) (a b:Int):Pu Tryz.prog 242 #[.int .i64 i,.agg #[.int .i64 a,.int .i64 b]] h (.int .i64 (if isSpan ⟨a,b⟩ then 0 else 1)) := by
 refine w131 _ _ _ X0_ok ?_
 unfold n131
 refine t_pu (c132 _ _) ?_
 refine gZ ?_
 refine t_pu (c83 _ _) ?_
 refine gZ ?_
 refine t_ret ⟨?_,rfl⟩
 cases isSpan ⟨a,b⟩ <;> rfl
theorem pu_gr {f:FuncId} {args:Array Value} {h:LH} {v:Value} (c:Pu Tryz.prog f args h v):Gr Tryz.prog f args h fun r _ => r = v :=
 FW.mono c (by rintro _ _ ⟨rfl,rfl⟩; exact ⟨LH.le_refl _,rfl⟩)
theorem c127 {h:LH} {f:FileC} {u:UseFile} (hu:FileR h.get f u):Gr Tryz.prog 238 #[fileV f u] h fun r _ => r = .int .i64 (excusesF u) := by
 refine w127 _ _ _ _ _ _ _ _ _ _ _ _ _ X0_ok ?_
 unfold n127
 refine t_gr (c130 (g := fun _ x => if isSpan x then 0 else 1) hu.excuses ?_) ?_
 ·rintro i x h' hle hx _ rfl
  exact cv_fw X0_ok (by rfl) (pu_gr (c131 _ _ _))
 ·rintro _ h' hle rfl
  refine gZ ?_
  exact t_ret ⟨hle,rfl⟩
theorem c86 {h:LH} {f:FileC} {u:UseFile} (hl:IsI (u.lands - 1)) (n:Int):Pu Tryz.prog 104 #[fileV f u,.int .i64 n] h (.bool (isIn n 0 (u.lands - 1))) := by
 refine w86 _ _ _ _ _ _ _ _ _ _ _ _ _ _ X0_ok ?_
 unfold n86
 rw [wrap_id hl.1 hl.2]
 refine t_pu (c81 _ _ _) ?_
 refine gZ ?_
 exact t_ret ⟨rfl,rfl⟩
theorem c134 {h:LH} {z0:Addr} {f:FileC} {u:UseFile} (hat:FileAt h.get z0 f u) (hl:IsI (u.lands - 1)) (hi:IsI (u.items - 1)) (i:Int) {p:Paper} {q:Option Addr} {m c:Nat} (hs:Sl IntE 1 h.get q m p.items) :
  Gr Tryz.prog 245 #[.int .i64 i,.agg #[.int .i64 p.days.first,.int .i64 p.days.last,.int .i64 p.land,.slice q m c],.pointer (some z0)] h fun r _ => r = .int .i64 (paperF u p) := by
 refine w134 _ _ _ _ _ _ _ _ X0_ok ?_
 unfold n134
 obtain ⟨f0,f1,f2,f3,f4,f5,f6⟩ := hat
 refine gZ ?_
 refine t_pu (c132 _ _) ?_
 refine gZ ?_
 refine t_pu (c83 _ _) ?_
 refine gZ ?_
 refine t_pu (c86 (f := f) (u := u) hl _) ?_
 refine gZ ?_
 refine t_pu (c83 _ _) ?_
 refine gZ ?_
 refine t_gr (c70 hs hi) ?_
 rintro _ h' hle rfl
 refine gZ ?_
 refine flaws3 fun r h2 hle2 hs => ?_
 refine gZ ?_
 refine t_pu (c96 hs) ?_
 refine gZ ?_
 refine t_ret ⟨LH.le_trans hle hle2,?_⟩
 simp [firstF,paperF]
 split <;> simp_all
 split <;> simp_all
end Go.Proofs.YtfkfohpnpljihaaGreatDoor
end
section
namespace Go.Proofs.YtfkfohpnpljihaaGreatDoor
open Go Go.TM Go.Proofs
attribute [local irreducible] T.wp CV FWK
theorem fileAt_new {h:Cells} {r:Nat} {f:FileC} {u:UseFile} {T:TypeId}:FileAt (h.upd r (true,.cells #[.int .i64 u.items,.int .i64 u.lands,.int .i64 u.from_,.int .i64 u.idle,.slice f.p4 f.n4 f.c4,.slice f.p5 f.n5 f.c5,.slice f.p6 f.n6 f.c6] T (0,0))) ⟨r,0,none⟩ f u := by
 constructor <;> (rw [add_plain]; exact cell_upd rfl)
theorem c128 {h:LH} {f:FileC} {u:UseFile} (hu:FileR h.get f u) (hl:IsI (u.lands - 1)) (hi:IsI (u.items - 1)):Gr Tryz.prog 239 #[fileV f u] h fun r _ => r = .int .i64 (papersF u) := by
 refine w128 _ _ _ _ _ _ _ _ _ _ _ _ _ X0_ok ?_
 unfold n128
 refine t_new fun r hr => ?_
 have le1:h.le _ := LH.upd_le (x := (true,.cells #[.int .i64 u.items,.int .i64 u.lands,.int .i64 u.from_,.int .i64 u.idle,.slice f.p4 f.n4 f.c4,.slice f.p5 f.n5 f.c5,.slice f.p6 f.n6 f.c6] 133 (0,0))) hr
 have hat := fileAt_new (h := h.get) (r := r) (f := f) (u := u) (T := 133)
 refine gL1 hat.f5 ?_
 refine t_gr (c133 (g := fun _ p => paperF u p) (hu.le le1.1).papers ?_) ?_
 ·rintro i x h' hle hx _ ⟨q,m,d,rfl,hs⟩
  exact cv_fw X0_ok (by rfl) (c134 (hat.le hle.1) hl hi _ hs)
 ·rintro _ h' hle rfl
  refine gZ ?_
  exact t_ret ⟨LH.le_trans le1 hle,rfl⟩
set_option maxRecDepth 100000 in
theorem c136 {h:LH} {z0:Addr} {f:FileC} {u:UseFile} (hu:FileR h.get f u) (hat:FileAt h.get z0 f u) (hl:IsI (u.lands - 1)) (hi:IsI (u.items - 1)) (i:Nat) {r:Request} (hx:u.requests[i]? = some r) {q:Option Addr} {m c:Nat} (hs:Sl IntE 1 h.get q m r.items) :
  Gr Tryz.prog 247 #[.int .i64 i,.agg #[.int .i64 r.day,.int .i64 r.land,.slice q m c],.pointer (some z0)] h fun v _ => v = .int .i64 (requestF u i r) := by
 refine w136 _ _ _ _ _ _ _ X0_ok ?_
 unfold n136
 have hat0 := hat
 obtain ⟨f0,f1,f2,f3,f4,f5,f6⟩ := hat
 have hlt:i < u.requests.length := (List.getElem?_eq_some_iff.1 hx).1
 have hlen := hu.requests.2.1
 have hw:wrap .i64 ((i:Int) - 1) = (i:Int) - 1 := wrap_id (by omega) (by omega)
 refine gZ ?_
 refine t_pu (c84 _) ?_
 refine gZ ?_
 refine t_pu (c83 _ _) ?_
 refine gZ ?_
 refine t_if (fun e1 => ?_) (fun e1 => ?_)
 ·have e1':AV.val (.bool (decide (r.day < u.from_))) = AV.val (.bool true) := by simp [e1]
  refine gZ ?_
  refine t_pu (c83 _ _) ?_
  refine gZ ?_
  refine t_pu (c86 (f := f) (u := u) hl _) ?_
  refine gZ ?_
  refine t_pu (c83 _ _) ?_
  refine gZ ?_
  refine t_gr (c70 hs hi) ?_
  rintro _ h' hle rfl
  obtain ⟨g0,g1,g2,g3,g4,g5,g6⟩ := hat0.le hle.1
  refine gZ ?_
  refine flaws4 fun r2 h2 hle2 hs => ?_
  obtain ⟨g0,g1,g2,g3,g4,g5,g6⟩ := hat0.le (LH.le_trans hle hle2).1
  refine gZ ?_
  refine t_pu (c96 hs) ?_
  refine gZ ?_
  refine t_ret ⟨LH.le_trans hle hle2,?_⟩
  simp [firstF,requestF,isDay,e1]
  split <;> simp_all
 ·have e1':AV.val (.bool (decide (r.day < u.from_))) = AV.val (.bool false) := by simp [e1]
  refine gZ ?_
  refine t_if (fun e2 => ?_) (fun e2 => ?_)
  ·have e2':AV.val (.bool (decide ((i:Int) > 0))) = AV.val (.bool true) := by rw [decide_eq_true e2]
   have e3:(if (i:Int) - 1 > 0 then (i:Int) - 1 else 0) = ((i - 1:Nat):Int) := by split <;> omega
   simp only [hw,e3]
   obtain ⟨y,a,hy,ha,e4,e5,q5,m5,c5,e6,e7⟩ := hu.requests.at (i := i - 1) (by have := hu.requests.1; omega)
   have := hu.requests.1
   refine gZ ?_
   refine t_pu (c83 _ _) ?_
   refine gZ ?_
   refine t_pu (c86 (f := f) (u := u) hl _) ?_
   refine gZ ?_
   refine t_pu (c83 _ _) ?_
   refine gZ ?_
   refine t_gr (c70 hs hi) ?_
   rintro _ h' hle rfl
   have e4' := Cells.cell?_le hle.1 e4
   obtain ⟨g0,g1,g2,g3,g4,g5,g6⟩ := hat0.le hle.1
   refine gZ ?_
   refine flaws4 fun r2 h2 hle2 hs => ?_
   have e4' := Cells.cell?_le (LH.le_trans hle hle2).1 e4
   obtain ⟨g0,g1,g2,g3,g4,g5,g6⟩ := hat0.le (LH.le_trans hle hle2).1
   refine gZ ?_
   refine t_pu (c96 hs) ?_
   refine gZ ?_
   refine t_ret ⟨LH.le_trans hle hle2,?_⟩
   simp [firstF,requestF,isDay,e1,hy,show 0 < i by omega]
   split <;> simp_all
   split <;> simp_all
   split <;> simp_all
  ·have e2':AV.val (.bool (decide ((i:Int) > 0))) = AV.val (.bool false) := by rw [decide_eq_false e2]
   refine gZ ?_
   refine t_pu (c83 _ _) ?_
   refine gZ ?_
   refine t_pu (c86 (f := f) (u := u) hl _) ?_
   refine gZ ?_
   refine t_pu (c83 _ _) ?_
   refine gZ ?_
   refine t_gr (c70 hs hi) ?_
   rintro _ h' hle rfl
   obtain ⟨g0,g1,g2,g3,g4,g5,g6⟩ := hat0.le hle.1
   refine gZ ?_
   refine flaws4 fun r2 h2 hle2 hs => ?_
   obtain ⟨g0,g1,g2,g3,g4,g5,g6⟩ := hat0.le (LH.le_trans hle hle2).1
   refine gZ ?_
   refine t_pu (c96 hs) ?_
   refine gZ ?_
   refine t_ret ⟨LH.le_trans hle hle2,?_⟩
   simp [firstF,requestF,isDay,e1,show ¬ 0 < i by omega]
   split <;> simp_all
   split <;> simp_all
theorem c129 {h:LH} {f:FileC} {u:UseFile} (hu:FileR h.get f u) (hl:IsI (u.lands - 1)) (hi:IsI (u.items - 1)):Gr Tryz.prog 240 #[fileV f u] h fun r _ => r = .int .i64 (requestsF u) := by
 refine w129 _ _ _ _ _ _ _ _ _ _ _ _ _ X0_ok ?_
 unfold n129
 refine t_new fun r hr => ?_
 have le1:h.le _ := LH.upd_le (x := (true,.cells #[.int .i64 u.items,.int .i64 u.lands,.int .i64 u.from_,.int .i64 u.idle,.slice f.p4 f.n4 f.c4,.slice f.p5 f.n5 f.c5,.slice f.p6 f.n6 f.c6] 133 (0,0))) hr
 have hat := fileAt_new (h := h.get) (r := r) (f := f) (u := u) (T := 133)
 refine gL1 hat.f6 ?_
 refine t_gr (c135 (g := requestF u) (hu.le le1.1).requests ?_) ?_
 ·rintro i x h' hle hx _ ⟨q,m,d,rfl,hs⟩
  exact cv_fw X0_ok (by rfl) (c136 ((hu.le le1.1).le hle.1) (hat.le hle.1) hl hi i hx hs)
 ·rintro _ h' hle rfl
  refine gZ ?_
  exact t_ret ⟨LH.le_trans le1 hle,rfl⟩
def Parts (h:Cells):Prop := (∀ j,j < 4 -> h.cell? ⟨1,j,none⟩ = some (.func (.func (237 + j)) #[] #[]))
theorem Parts.le {h h':Cells} (hl:h.le h') (p:Parts h):Parts h' := fun j hj => Cells.cell?_le hl (p j hj)
theorem c26 {h:LH} {f:FileC} {u:UseFile} (hp:Parts h.get) (hu:FileR h.get f u):Gr Tryz.prog 96 #[fileV f u] h fun r _ => r = .int .i64 (checkF u) := by
 refine w26 _ _ _ _ _ _ _ _ _ _ _ _ _ X0_ok ?_
 unfold n26
 refine t_loadV (hp 0 (by omega)) (t_loadV (hp 1 (by omega)) (t_loadV (hp 2 (by omega)) (t_loadV (hp 3 (by omega)) ?_)))
 refine t_loop (fun m vs h' => h.le h' /\ ∃ i:Nat,vs = [.int .i64 0,.int .i64 i] /\ i <= 4 /\ m = 4 - i /\ (0 < i -> numbersF u = 0) /\ checkF u = firstF (fun _ x => x) i ([numbersF u,excusesF u,papersF u,requestsF u].drop i)) ⟨LH.le_refl _,0,rfl,by omega,rfl,by omega,rfl⟩ ?_
 rintro Y m vs h₁ hY ⟨hle,i,rfl,hi4,rfl,hnum,hc⟩
 refine gZ ?_
 refine t_if (fun e1 => ?_) (fun e1 => ?_)
 ·refine t_index (v := .func (.func (237 + i)) #[] #[]) und98 inf87 und87 agg87 (by omega) ?_ ?_
  ·have:i = 0 \/ i = 1 \/ i = 2 \/ i = 3 := by omega
   rcases this with rfl | rfl | rfl | rfl <;> rfl
  have key:CV X0 Tryz.prog (.func (.func (237 + i)) #[] #[]) #[fileV f u] h₁ fun r h' => h₁.le h' /\ r = .int .i64 ([numbersF u,excusesF u,papersF u,requestsF u].getD i 0) := by
   have hu1 := hu.le hle.1
   have:i = 0 \/ i = 1 \/ i = 2 \/ i = 3 := by omega
   rcases this with rfl | rfl | rfl | rfl
   ·exact cv_fw X0_ok (by rfl) (pu_gr c126)
   ·exact cv_fw X0_ok (by rfl) (c127 hu1)
   ·exact cv_fw X0_ok (by rfl) (c128 hu1 (num_lands (hnum (by omega))) (num_items (hnum (by omega))))
   ·exact cv_fw X0_ok (by rfl) (c129 hu1 (num_lands (hnum (by omega))) (num_items (hnum (by omega))))
  refine t_callv key ?_
  rintro _ h₂ ⟨hle2,rfl⟩
  refine gZ ?_
  have hd:[numbersF u,excusesF u,papersF u,requestsF u].drop i = [numbersF u,excusesF u,papersF u,requestsF u].getD i 0 :: [numbersF u,excusesF u,papersF u,requestsF u].drop (i + 1) := by
   have:i = 0 \/ i = 1 \/ i = 2 \/ i = 3 := by omega
   rcases this with rfl | rfl | rfl | rfl <;> rfl
  rw [hd] at hc
  refine t_cond (fun e3 => ?_) (fun e3 => ?_)
  ·refine gZ ?_
   refine t_ret ⟨LH.le_trans hle hle2,?_⟩
   rw [hc,firstF,if_pos (by simpa using e3)]
  ·refine t_again (hY (4 - (i + 1)) _ _ (by omega) ⟨LH.le_trans hle hle2,i + 1,?_,by omega,rfl,fun _ => ?_,?_⟩)
   rotate_left
   ·rcases Nat.eq_zero_or_pos i with rfl | hi0
    ·simpa using e3
    ·exact hnum hi0
   rotate_left
   ·rw [wrap_id (by omega) (by omega)]; rfl
   ·rw [hc,firstF,if_neg (by simpa using e3)]
 ·refine gZ ?_
  refine t_ret ⟨hle,?_⟩
  rw [hc,List.drop_eq_nil_of_le (by simp; omega)]; rfl
end Go.Proofs.YtfkfohpnpljihaaGreatDoor
end
section
namespace Go.TM
open Go Go.Conc
variable {P:Program} {E:Halt -> Cells -> Prop} {h:Cells}
def isI64 (P:Program) (t:TypeId):Bool := match P.underlying t with
 | some (.int .i64) => true
 | _ => false
def twoInts (P:Program) (t:TypeId):Bool := match P.underlying t with
 | some (.struct fs) => (match fs.toList with
  | [a, b] => a.name != "_" && b.name != "_" && isI64 P a.type && isI64 P b.type && Nat.beq a.offset 0 && Nat.beq b.offset 1
  | _ => false) && !P.stoodInHeld t
 | _ => false
theorem isI64_und {t:TypeId} (ht:isI64 P t = true):P.underlying t = some (.int .i64) := by
 unfold isI64 at ht
 split at ht
 ·assumption
 ·cases ht
theorem isI64_agg {t:TypeId} (ht:isI64 P t = true):isAggT P t = false := by
 unfold isAggT; rw [isI64_und ht]
theorem twoInts_spec {t : TypeId} (ht : twoInts P t = true) : ∃ a b : Field, P.underlying t = some (.struct #[a, b]) /\ a.name ≠ "_" /\ b.name ≠ "_" /\ isI64 P a.type = true /\ isI64 P b.type = true /\ a.offset = 0 /\ b.offset = 1 /\ P.stoodInHeld t = false := by
 unfold twoInts at ht
 split at ht
 ·rename_i fs hu
  simp only [Bool.and_eq_true,Bool.not_eq_true'] at ht
  obtain ⟨h1,h2⟩ := ht
  split at h1
  ·rename_i a b hfs
   simp only [Bool.and_eq_true,bne_iff_ne] at h1
   obtain ⟨⟨⟨⟨⟨h3,h4⟩,h5⟩,h6⟩,h7⟩,h8⟩ := h1
   have:fs = #[a,b] := by rw [<- hfs]
   exact ⟨a,b,by rw [hu,this],h3,h4,h5,h6,nbeq_true h7,nbeq_true h8,h2⟩
  ·cases h1
 ·cases ht
theorem lwp_partI {Q:Value -> Cells -> Prop} {t:TypeId} {cs:Array Value} {o:Nat} {v:Value} (ht:isI64 P t = true) (hv:cs[o]? = some v) (hq:Q v h):Sem.lwp P (part t cs o) Q E h := by
 unfold part
 rw [lwp_bind,lwp_isAgg_false (isI64_und ht) (isI64_agg ht)]
 simp only [Bool.false_eq_true,if_false,hv]
 exact hq
theorem lwp_equalI {Q:Bool -> Cells -> Prop} {t:TypeId} {d:Nat} {a b:Int} (ht:isI64 P t = true) (hq:Q (a == b) h):Sem.lwp P (Op.equalIn (d + 1) t (.int .i64 a) (.int .i64 b)) Q E h := by
 unfold Op.equalIn
 rw [lwp_bind,lwp_underlying (isI64_und ht)]
 exact hq
theorem lwp_equal2 {Q:Bool -> Cells -> Prop} {t:TypeId} {a b c d:Int} (ht:twoInts P t = true) (hq:Q (decide (a = c /\ b = d)) h):Sem.lwp P (Op.equal t (.agg #[.int .i64 a,.int .i64 b]) (.agg #[.int .i64 c,.int .i64 d])) Q E h := by
 obtain ⟨f,g,hu,n1,n2,i1,i2,o1,o2,hs⟩ := twoInts_spec ht
 unfold Op.equal
 have hmd:Op.maxDepth = 9998 + 1 + 1 := rfl
 rw [hmd,Op.equalIn]
 rw [lwp_bind,lwp_underlying hu]
 simp only [lwp_bind,lwp_program,hs,Bool.false_eq_true,if_false,List.forIn_toArray,List.forIn_cons,List.forIn_nil,n1,n2,ne_eq,not_false_eq_true,if_true]
 refine lwp_partI i1 (v := .int .i64 a) (by rw [o1]; rfl) ?_
 refine lwp_partI i1 (v := .int .i64 c) (by rw [o1]; rfl) ?_
 refine lwp_equalI i1 ?_
 by_cases e1:a = c
 ·subst e1
  simp only [beq_self_eq_true,Bool.not_true,Bool.false_eq_true,if_false,lwp_pure,lwp_bind]
  refine lwp_partI i2 (v := .int .i64 b) (by rw [o2]; rfl) ?_
  refine lwp_partI i2 (v := .int .i64 d) (by rw [o2]; rfl) ?_
  refine lwp_equalI i2 ?_
  by_cases e2:b = d
  ·subst e2
   simpa [lwp_pure] using hq
  ·have e3:(b == d) = false := by simpa using e2
   simpa [lwp_pure,e2,e3] using hq
 ·have e3:(a == c) = false := by simpa using e1
  simpa [lwp_pure,e1,e3] using hq
def IsKey (P:Program) (kt:TypeId) (v:Value):Prop := (isI64 P kt = true /\ ∃ n,v = .int .i64 n) \/ (twoInts P kt = true /\ ∃ a b,v = .agg #[.int .i64 a,.int .i64 b])
theorem lwp_checkKey {Q:Unit -> Cells -> Prop} {e:Bool} {kt:TypeId} {v:Value} (hk:IsKey P kt v) (hq:Q () h):Sem.lwp P (Instr.checkKey e 10000 kt v) Q E h := by
 have one:∀ {Q:Unit -> Cells -> Prop} {d:Nat} {t:TypeId} {n:Int},isI64 P t = true -> Q () h -> Sem.lwp P (Instr.checkKey e (d + 1) t (.int .i64 n)) Q E h := by
  intro Q d t n ht hq
  unfold Instr.checkKey
  rw [lwp_bind,lwp_underlying (isI64_und ht)]
  exact hq
 rcases hk with ⟨ht,n,rfl⟩ | ⟨ht,a,b,rfl⟩
 ·exact one (d := 9999) ht hq
 ·obtain ⟨f,g,hu,n1,n2,i1,i2,o1,o2,hs⟩ := twoInts_spec ht
  rw [show (10000:Nat) = 9998 + 1 + 1 from rfl,Instr.checkKey]
  rw [lwp_bind,lwp_underlying hu]
  simp only [lwp_bind,List.forIn_toArray,List.forIn_cons,List.forIn_nil,n1,n2,ne_eq,not_false_eq_true,if_true,lwp_pure]
  refine lwp_partI i1 (v := .int .i64 a) (by rw [o1]; rfl) ?_
  refine one i1 ?_
  refine lwp_partI i2 (v := .int .i64 b) (by rw [o2]; rfl) ?_
  exact one i2 hq
theorem findNow_int {t:TypeId} {n:Int}:∀ (es:List MapEntry) (i:Nat),(∀ e ∈ es,∃ m,e.key = .int .i64 m) ->
  (∃ j e,es[j]? = some e /\ e.key = .int .i64 n /\ Instr.findNow (.int .i64) (.int .i64 n) es i = some (some (i + j,e.val))) \/ ((∀ e ∈ es,e.key ≠ .int .i64 n) /\ Instr.findNow (.int .i64) (.int .i64 n) es i = some none) := by
 intro es
 induction es with
 | nil => intro i _; exact .inr ⟨fun e he => by simp at he,rfl⟩
 | cons e es ih =>
  intro i hes
  obtain ⟨m,hm⟩ := hes e (by simp)
  unfold Instr.findNow
  rw [hm]
  simp only [Instr.sameNow,if_true]
  by_cases hnm:n = m
  ·subst hnm
   left
   refine ⟨0,e,rfl,hm,?_⟩
   simp
  ·have hb:(n == m) = false := by simpa using hnm
   rw [hb]
   simp only []
   rcases ih (i + 1) (fun e' he' => hes e' (by simp [he'])) with ⟨j,e',h1,h2,h3⟩ | ⟨h1,h2⟩
   ·left
    exact ⟨j + 1,e',by simpa using h1,h2,by rw [h3]; congr 3; omega⟩
   ·right
    refine ⟨fun e' he' => ?_,h2⟩
    rcases List.mem_cons.1 he' with rfl | he'
    ·rw [hm]; intro hc; cases hc; exact hnm rfl
    ·exact h1 e' he'
theorem lwp_findAsking {Q:Option (Nat × Value) -> Cells -> Prop} {kt:TypeId} {a b:Int} (ht:twoInts P kt = true):∀ (es:List MapEntry) (i:Nat),(∀ e ∈ es,∃ c d,e.key = .agg #[.int .i64 c,.int .i64 d]) ->
  (∀ j e,es[j]? = some e -> e.key = .agg #[.int .i64 a,.int .i64 b] -> Q (some (i + j,e.val)) h) -> ((∀ e ∈ es,e.key ≠ .agg #[.int .i64 a,.int .i64 b]) -> Q none h) -> Sem.lwp P (Instr.findAsking kt (.agg #[.int .i64 a,.int .i64 b]) es i) Q E h := by
 intro es
 induction es with
 | nil => intro i _ _ h2; exact h2 fun e he => by simp at he
 | cons e es ih =>
  intro i hes h1 h2
  obtain ⟨c,d,hm⟩ := hes e (by simp)
  unfold Instr.findAsking
  rw [lwp_bind,hm]
  refine lwp_equal2 ht ?_
  by_cases hab:a = c /\ b = d
  ·obtain ⟨rfl,rfl⟩ := hab
   simp only [and_self,decide_true,if_true,lwp_pure]
   have := h1 0 e rfl hm
   simpa using this
  ·simp only [hab,decide_false,Bool.false_eq_true,if_false]
   refine ih (i + 1) (fun e' he' => hes e' (by simp [he'])) (fun j e' he' hk => ?_) fun hno => h2 fun e' he' => ?_
   ·have := h1 (j + 1) e' (by simpa using he') hk
    rw [show i + 1 + j = i + (j + 1) by omega]; exact this
   ·rcases List.mem_cons.1 he' with rfl | he'
    ·rw [hm]; intro hc
     simp only [Value.agg.injEq,Array.mk.injEq,List.cons.injEq,Value.int.injEq,and_true,true_and] at hc
     exact hab ⟨hc.1.symm,hc.2.symm⟩
    ·exact hno e' he'
theorem lwp_findKey {Q:Option (Nat × Value) -> Cells -> Prop} {kt:TypeId} {k:Value} {es:List MapEntry} (hk:IsKey P kt k) (hes:∀ e ∈ es,IsKey P kt e.key) (h1:∀ j e,es[j]? = some e -> e.key = k -> Q (some (j,e.val)) h) (h2:(∀ e ∈ es,e.key ≠ k) -> Q none h):Sem.lwp P (Instr.findKey kt k es) Q E h := by
 unfold Instr.findKey
 rcases hk with ⟨ht,n,rfl⟩ | ⟨ht,a,b,rfl⟩
 ·rw [lwp_bind,lwp_underlying (isI64_und ht)]
  have hes':∀ e ∈ es,∃ m,e.key = .int .i64 m := by
   intro e he
   rcases hes e he with ⟨_,m,hm⟩ | ⟨ht',_⟩
   ·exact ⟨m,hm⟩
   ·obtain ⟨f,g,hu,_⟩ := twoInts_spec ht'
    rw [isI64_und ht] at hu; cases hu
  rcases findNow_int (t := kt) (n := n) es 0 hes' with ⟨j,e,g1,g2,g3⟩ | ⟨g1,g2⟩
  ·rw [g3]
   simp only [lwp_pure]
   have := h1 j e g1 g2
   simpa using this
  ·rw [g2]; exact h2 g1
 ·obtain ⟨f,g,hu,_⟩ := twoInts_spec ht
  rw [lwp_bind,lwp_underlying hu]
  have hes':∀ e ∈ es,∃ c d,e.key = .agg #[.int .i64 c,.int .i64 d] := by
   intro e he
   rcases hes e he with ⟨ht',_⟩ | ⟨_,c,d,hm⟩
   ·rw [isI64_und ht'] at hu; cases hu
   ·exact ⟨c,d,hm⟩
  cases es with
  | nil => exact h2 fun e he => by simp at he
  | cons e es =>
   obtain ⟨c,d,hm⟩ := hes' e (by simp)
   have:Instr.findNow (.struct #[f,g]) (.agg #[.int .i64 a,.int .i64 b]) (e :: es) 0 = none := by
    unfold Instr.findNow; rw [hm]; rfl
   rw [this]
   refine lwp_findAsking ht (e :: es) 0 hes' (fun j e' he' hk => ?_) h2
   have := h1 j e' he' hk
   simpa using this
def MapAt (h:Cells) (m:Nat) (es:Array MapEntry):Prop := ∃ c,h m = some (true,.map es c)
theorem lwp_lookup {Q:Value -> Cells -> Prop} {t kt et:TypeId} {s b:Nat} {z:Value} {m:Nat} {es:Array MapEntry} {k:Value} {ok:Bool} (hu:P.underlying t = some (.map kt et)) (hi:(P.info? et).map (fun i => (i.size,i.bytes,i.zero)) = some (s,b,some z)) (hm:MapAt h m es) (hk:IsKey P kt k) (hes:∀ e ∈ es.toList,IsKey P kt e.key)
  (h1:∀ e ∈ es.toList,e.key = k -> Q (if ok then .tuple #[e.val,.bool true] else e.val) h) (h2:(∀ e ∈ es.toList,e.key ≠ k) -> Q (if ok then .tuple #[z,.bool false] else z) h):Sem.lwp P (Instr.lookup t (.map (some m)) k ok) Q E h := by
 obtain ⟨inf,g1,_,_,g4⟩ := info_of hi
 obtain ⟨c,hmc⟩ := hm
 unfold Instr.lookup
 rw [lwp_bind,lwp_underlying hu]
 simp only [lwp_bind]
 refine ⟨_,_,hmc,trivial,?_⟩
 show Sem.lwp P (_ >>= _) Q E h
 rw [lwp_bind,lwp_pure,lwp_bind]
 refine lwp_checkKey hk ?_
 rw [lwp_bind]
 refine lwp_findKey hk hes (fun j e he hek => ?_) fun hno => ?_
 ·simp only [lwp_pure,lwp_bind]
  have := h1 e (List.mem_of_getElem? he) hek
  cases ok <;> exact this
 ·simp only [lwp_bind,lwp_zeroValue g1 g4,lwp_pure]
  have := h2 hno
  cases ok <;> exact this
theorem sameBits_key {kt:TypeId} {k:Value} (hk:IsKey P kt k):Instr.sameBits 10000 k k = true := by
 rcases hk with ⟨_,n,rfl⟩ | ⟨_,a,b,rfl⟩
 ·simp [Instr.sameBits]
 ·rw [show (10000:Nat) = 9999 + 1 from rfl]
  simp [Instr.sameBits]
theorem lwp_mapUpdate {Q:Unit -> Cells -> Prop} {t kt et:TypeId} {m:Nat} {es:Array MapEntry} {k v:Value} (hu:P.underlying t = some (.map kt et)) (hm:MapAt h m es) (hk:IsKey P kt k) (hes:∀ e ∈ es.toList,IsKey P kt e.key)
  (hq:∀ es' c,(∀ e ∈ es'.toList,(e.key = k /\ e.val = v) \/ e ∈ es.toList) -> (∃ e ∈ es'.toList,e.key = k) -> (∀ e ∈ es.toList,∃ e' ∈ es'.toList,e'.key = e.key) -> Q () (h.upd m (true,.map es' c))):Sem.lwp P (Instr.mapUpdate t (.map (some m)) k v) Q E h := by
 obtain ⟨c,hmc⟩ := hm
 unfold Instr.mapUpdate
 rw [lwp_bind,lwp_underlying hu]
 simp only [lwp_bind]
 refine ⟨_,_,hmc,trivial,?_⟩
 show Sem.lwp P (_ >>= _) _ E h
 rw [lwp_bind]
 refine lwp_checkKey hk ?_
 rw [lwp_bind]
 refine lwp_findKey hk hes (fun j e he hek => ?_) fun hno => ?_
 ·have he':es[j]? = some e := by rw [<- Array.getElem?_toList]; exact he
  simp only [lwp_bind,Instr.keyThatStays,he',Option.map_some,Option.getD_some,hek,sameBits_key hk,if_true,lwp_pure]
  refine ⟨⟨_,hmc,trivial⟩,?_⟩
  have hmem:∀ i:Nat,(es.modify j fun e => { e with key := k,val := v })[i]? = if i = j then (es[i]?).map (fun e => { e with key := k,val := v }) else es[i]? := by
   intro i; rw [Array.getElem?_modify]; by_cases hij:j = i
   ·subst hij; simp
   ·rw [if_neg hij,if_neg (Ne.symm hij)]
  refine hq _ _ (fun e2 he2 => ?_) ⟨{ e with key := k,val := v },?_,rfl⟩ fun e2 he2 => ?_
  ·obtain ⟨i,hi,hie⟩ := List.getElem_of_mem he2
   have h3:(es.modify j fun e => { e with key := k,val := v })[i]? = some e2 := by rw [<- Array.getElem?_toList,List.getElem?_eq_getElem hi,hie]
   rw [hmem] at h3
   by_cases hij:i = j
   ·rw [if_pos hij] at h3
    cases h4:es[i]? with
    | none => rw [h4] at h3; cases h3
    | some e0 => rw [h4] at h3; simp only [Option.map_some,Option.some.injEq] at h3; subst h3; exact .inl ⟨rfl,rfl⟩
   ·rw [if_neg hij] at h3
    right
    exact List.mem_of_getElem? (i := i) (by rw [Array.getElem?_toList]; exact h3)
  ·refine List.mem_of_getElem? (i := j) ?_
   rw [Array.getElem?_toList,hmem,if_pos rfl,he']; rfl
  ·obtain ⟨i,hi,hie⟩ := List.getElem_of_mem he2
   have h3:es[i]? = some e2 := by rw [<- Array.getElem?_toList,List.getElem?_eq_getElem hi,hie]
   by_cases hij:i = j
   ·refine ⟨{ e2 with key := k,val := v },List.mem_of_getElem? (i := i) ?_,?_⟩
    ·rw [Array.getElem?_toList,hmem,if_pos hij,h3]; rfl
    ·subst hij; rw [he'] at h3; cases h3; exact hek.symm
   ·exact ⟨e2,List.mem_of_getElem? (i := i) (by rw [Array.getElem?_toList,hmem,if_neg hij,h3]),rfl⟩
 ·refine ⟨⟨_,hmc,trivial⟩,?_⟩
  refine hq _ _ (fun e2 he2 => ?_) ⟨{ key := k,val := v,born := c },by simp,rfl⟩ fun e2 he2 => ⟨e2,by rw [Array.toList_push]; exact List.mem_append_left _ he2,rfl⟩
  simp only [Array.toList_push,List.mem_append,List.mem_singleton] at he2
  rcases he2 with he2 | rfl
  ·exact .inr he2
  ·exact .inl ⟨rfl,rfl⟩
variable {X:XP} {Q:Leaf -> LH -> Prop}
theorem t_makeMap {h:LH} {k:Value -> T} {t:TypeId} (hk:∀ r,h.get r = none -> (k (.map (some r))).wp X P Q { h with get := h.get.upd r (true,.map #[] 0) }):(T.sem false (Instr.makeMap t none) k).wp X P Q h := by
 refine t_sem (A := fun v h' => ∃ r,h.get r = none /\ v = .map (some r) /\ h' = h.get.upd r (true,.map #[] 0)) ?_ (by rintro v h' ⟨r,hr,rfl,rfl⟩; exact hk r hr)
 unfold Instr.makeMap
 rw [lwp_bind]
 intro r hr
 exact ⟨r,hr,rfl,rfl⟩
theorem t_lookup {h:LH} {K:Value -> T} {t kt et:TypeId} {s b:Nat} {z:Value} {m:Nat} {es:Array MapEntry} {k:Value} {ok:Bool} (hu:P.underlying t = some (.map kt et)) (hi:(P.info? et).map (fun i => (i.size,i.bytes,i.zero)) = some (s,b,some z)) (hm:MapAt h.get m es) (hk:IsKey P kt k) (hes:∀ e ∈ es.toList,IsKey P kt e.key)
  (h1:∀ e ∈ es.toList,e.key = k -> (K (if ok then .tuple #[e.val,.bool true] else e.val)).wp X P Q h) (h2:(∀ e ∈ es.toList,e.key ≠ k) -> (K (if ok then .tuple #[z,.bool false] else z)).wp X P Q h):(T.sem false (Instr.lookup t (.map (some m)) k ok) K).wp X P Q h :=
 t_sem (A := fun v h' => h' = h.get /\ (K v).wp X P Q h) (lwp_lookup hu hi hm hk hes (fun e he hek => ⟨rfl,h1 e he hek⟩) fun hno => ⟨rfl,h2 hno⟩) (by rintro v h' ⟨rfl,hw⟩; exact hw)
theorem t_mapUpdate {h:LH} {K:Value -> T} {t kt et:TypeId} {m:Nat} {es:Array MapEntry} {k v:Value} (hu:P.underlying t = some (.map kt et)) (hm:MapAt h.get m es) (hk:IsKey P kt k) (hes:∀ e ∈ es.toList,IsKey P kt e.key)
  (hq:∀ es' c,(∀ e ∈ es'.toList,(e.key = k /\ e.val = v) \/ e ∈ es.toList) -> (∃ e ∈ es'.toList,e.key = k) -> (∀ e ∈ es.toList,∃ e' ∈ es'.toList,e'.key = e.key) -> (K undef).wp X P Q { h with get := h.get.upd m (true,.map es' c) }):(T.sem false (Sem.bind (Instr.mapUpdate t (.map (some m)) k v) fun _ => pure (.tuple #[])) K).wp X P Q h := by
 refine t_sem (A := fun v h' => v = undef /\ (K undef).wp X P Q { h with get := h' }) (Sem.lwp_bind _ _ (lwp_mapUpdate hu hm hk hes fun es' c a b d => ⟨rfl,hq es' c a b d⟩)) (by rintro v h' ⟨rfl,hw⟩; exact hw)
theorem t_struct {h:LH} {K:Value -> T} {t:TypeId} {l:List (Nat × Value)} {v:Value} (hb:buildV P t l = some v) (hk:(K v).wp X P Q h):(T.sem false (Instr.build t l.toArray) K).wp X P Q h :=
 t_sem (A := fun w h' => w = v /\ h' = h.get) (lwp_build hb ⟨rfl,rfl⟩) (by rintro w h' ⟨rfl,rfl⟩; exact hk)
theorem t_eq2 {h:LH} {K:Value -> T} {t:TypeId} {x y:Operand} {a b c d:Int} (ht:twoInts P t = true) (hg:P.eqGuardType P.depth t = false) (hk:(K (.bool (decide (a = c /\ b = d)))).wp X P Q h) :
  (T.sem false (Sem.bind (eqGuard .eql t x y (.agg #[.int .i64 a,.int .i64 b]) (.agg #[.int .i64 c,.int .i64 d])) fun _ => binOp .eql t (.agg #[.int .i64 a,.int .i64 b]) (.agg #[.int .i64 c,.int .i64 d])) K).wp X P Q h := by
 refine t_sem (A := fun w h' => w = .bool (decide (a = c /\ b = d)) /\ h' = h.get) (Sem.lwp_bind _ _ ?_) (by rintro w h' ⟨rfl,rfl⟩; exact hk)
 unfold eqGuard
 simp only [Bool.not_true,Bool.false_eq_true,if_false,lwp_bind,lwp_program,hg,Bool.not_false,if_true,lwp_pure]
 unfold binOp
 rw [lwp_bind]
 exact lwp_equal2 ht ⟨rfl,rfl⟩
theorem t_ne2 {h:LH} {K:Value -> T} {t:TypeId} {x y:Operand} {a b c d:Int} (ht:twoInts P t = true) (hg:P.eqGuardType P.depth t = false) (hk:(K (.bool (!decide (a = c /\ b = d)))).wp X P Q h) :
  (T.sem false (Sem.bind (eqGuard .neq t x y (.agg #[.int .i64 a,.int .i64 b]) (.agg #[.int .i64 c,.int .i64 d])) fun _ => binOp .neq t (.agg #[.int .i64 a,.int .i64 b]) (.agg #[.int .i64 c,.int .i64 d])) K).wp X P Q h := by
 refine t_sem (A := fun w h' => w = .bool (!decide (a = c /\ b = d)) /\ h' = h.get) (Sem.lwp_bind _ _ ?_) (by rintro w h' ⟨rfl,rfl⟩; exact hk)
 unfold eqGuard
 simp only [Bool.not_true,Bool.false_eq_true,if_false,lwp_bind,lwp_program,hg,Bool.not_false,if_true,lwp_pure]
 unfold binOp
 rw [lwp_bind]
 exact lwp_equal2 ht ⟨rfl,rfl⟩
theorem Hands.g {v:Value} {h₀:LH} {L:List (List Value)} (hH:Hands X P v h₀ L):HandsG X P v h₀ (fun (i:Nat) xs j => L[i]? = some xs /\ j = i + 1) (fun i => i = L.length) 0 := by
 intro y J E hJ hE hc h hle h0
 refine CV.mono (hH y J E hJ hE (fun i h xs hl hx hj => hc i h xs (i + 1) hl ⟨hx,rfl⟩ hj) h hle h0) ?_
 rintro b h' ⟨h1,h2 | h2⟩
 ·exact ⟨h1,.inl ⟨_,rfl,h2⟩⟩
 ·exact ⟨h1,.inr h2⟩
theorem LH.add_none (h:LH):h.add (fun _ => none) = h := by
 unfold LH.add
 have:h.get.add (fun _ => none) = h.get := by funext b; unfold Cells.add; cases h.get b <;> rfl
 rw [this]
theorem HandsG.f {v:Value} {h₀:LH} {S:Type} {nx:S -> List Value -> S -> Prop} {fin:S -> Prop} {s₀:S} (hH:HandsG X P v h₀ nx fin s₀):HandsF X P v h₀ (fun _ => none) nx fin s₀ := by
 intro y J E hJ hE hc h hle h0 _
 rw [LH.add_none]
 exact hH y J E hJ hE hc h hle h0
theorem t_eachF {h h₀ hm:LH} {k₀:Cells} {v:Value} {init:List Value} {body:List Value -> List Value -> T} {kf kb kr:List Value -> T} {ko:Nat -> List Value -> T} {S:Type} {nx:S -> List Value -> S -> Prop} {fin:S -> Prop} {s₀:S} (μ:S -> Nat) (hμ:∀ s xs s',nx s xs s' -> μ s' < μ s)
  (heq:h = hm.add k₀) (hdk:Disj hm.get k₀) (hle:h₀.le hm) (hH:HandsF X P v h₀ k₀ nx fin s₀)
  (I:S -> List Value -> LH -> Prop) (h0:I s₀ init hm)
  (hend:∀ s vs h',fin s -> h₀.le h' -> I s vs h' -> (kf vs).wp X P Q h')
  (hb:∀ s xs s' vs h',nx s xs s' -> h₀.le h' -> I s vs h' -> ∀ Y:List Value -> LH -> Prop,(∀ vs' h'',h₀.le h'' -> I s' vs' h'' -> Y vs' h'') ->
   (body xs vs).wp X P (fun l h'' => h₀.le h'' /\ l.go h'' Y (fun vs h' => (kb vs).wp X P Q h') (fun vs h' => (kr vs).wp X P Q h') (fun j vs h' => (ko j vs).wp X P Q h')) h'):(T.each v init body kf kb kr ko).wp X P Q h := by
 refine ⟨S,nx,fin,s₀,h₀,hm,k₀,heq,hdk,hle,hH,fun Y hY => ?_⟩
 have key:∀ n s,μ s = n -> ∀ vs h',h₀.le h' -> I s vs h' -> Y s vs h' := by
  intro n
  induction n using Nat.strongRecOn with
  | ind n ih =>
   intro s hs vs h' hl hi
   refine hY s vs h' hl (fun hf => hend s vs h' hf hl hi) fun xs s' hn => ?_
   exact hb s xs s' vs h' hn hl hi _ fun vs' h'' hl'' hi'' => ih (μ s') (hs ▸ hμ s xs s' hn) s' rfl vs' h'' hl'' hi''
 exact key _ s₀ rfl init hm hle h0
theorem t_eachG {h h₀:LH} {v:Value} {init:List Value} {body:List Value -> List Value -> T} {kf kb kr:List Value -> T} {ko:Nat -> List Value -> T} {S:Type} {nx:S -> List Value -> S -> Prop} {fin:S -> Prop} {s₀:S} (μ:S -> Nat) (hμ:∀ s xs s',nx s xs s' -> μ s' < μ s) (hle:h₀.le h) (hH:HandsG X P v h₀ nx fin s₀)
  (I:S -> List Value -> LH -> Prop) (h0:I s₀ init h)
  (hend:∀ s vs h',fin s -> h₀.le h' -> I s vs h' -> (kf vs).wp X P Q h')
  (hb:∀ s xs s' vs h',nx s xs s' -> h₀.le h' -> I s vs h' -> ∀ Y:List Value -> LH -> Prop,(∀ vs' h'',h₀.le h'' -> I s' vs' h'' -> Y vs' h'') ->
   (body xs vs).wp X P (fun l h'' => h₀.le h'' /\ l.go h'' Y (fun vs h' => (kb vs).wp X P Q h') (fun vs h' => (kr vs).wp X P Q h') (fun j vs h' => (ko j vs).wp X P Q h')) h'):(T.each v init body kf kb kr ko).wp X P Q h := by
 exact t_eachF μ hμ (hm := h) (k₀ := fun _ => none) (LH.add_none h).symm (fun _ => .inr rfl) hle (hH.f) I h0 hend hb
theorem t_each {h h₀:LH} {v:Value} {init:List Value} {body:List Value -> List Value -> T} {kf kb kr:List Value -> T} {ko:Nat -> List Value -> T} {L:List (List Value)} (hle:h₀.le h) (hH:Hands X P v h₀ L) (I:Nat -> List Value -> LH -> Prop) (h0:I 0 init h)
  (hend:∀ vs h',h₀.le h' -> I L.length vs h' -> (kf vs).wp X P Q h')
  (hb:∀ i xs vs h',L[i]? = some xs -> h₀.le h' -> I i vs h' -> ∀ Y:List Value -> LH -> Prop,(∀ vs' h'',h₀.le h'' -> I (i + 1) vs' h'' -> Y vs' h'') ->
   (body xs vs).wp X P (fun l h'' => h₀.le h'' /\ l.go h'' Y (fun vs h' => (kb vs).wp X P Q h') (fun vs h' => (kr vs).wp X P Q h') (fun j vs h' => (ko j vs).wp X P Q h')) h'):(T.each v init body kf kb kr ko).wp X P Q h := by
 refine t_eachG (fun i => L.length - i) (fun i xs j hn => ?_) hle hH.g I h0 (fun s vs h' hf hl hi => hend vs h' hl (hf ▸ hi)) fun i xs j vs h' hn hl hi => ?_
 ·have := (List.getElem?_eq_some_iff.1 hn.1).1
  have := hn.2
  omega
 ·obtain ⟨h1,rfl⟩ := hn
  exact hb i xs vs h' h1 hl hi
end Go.TM
end
section
namespace Go.TM
open Go Go.Conc
theorem OwnRow.le {el:TypeId} {k:Nat} {h h':Cells} {p:Option Addr} {n c:Nat} {vs:List Value} (hl:h.le h') (o:OwnRow el k h p n c vs):OwnRow el k h' p n c vs := by
 obtain ⟨h1,h2 | ⟨r,cs,e1,e2,e3,e4,e5⟩⟩ := o
 ·exact ⟨h1,.inl h2⟩
 ·exact ⟨h1,.inr ⟨r,cs,e1,hl _ _ e2,e3,e4,e5⟩⟩
def NewIn (h₀:Cells) (p:Option Addr):Prop := ∀ a,p = some a -> h₀ a.block = none
theorem NewIn.none {h₀:Cells}:NewIn h₀ none := fun a h => by cases h
theorem after_append {h₀ h h':Cells} {p p':Option Addr} (hle:h₀.le h) (hp:NewIn h₀ p) (hk:KeptBut p h h') (hp':p' = p \/ ∃ r,p' = some ⟨r,0,none⟩ /\ h r = none):h₀.le h' /\ NewIn h₀ p' := by
 refine ⟨fun r x hr => hk r x (hle r x hr) fun a ha e => ?_,?_⟩
 ·have := hp a ha; rw [e,hr] at this; cases this
 ·rcases hp' with rfl | ⟨r,rfl,hr⟩
  ·exact hp
  ·intro a ha
   cases ha
   cases hx:h₀ r with
   | none => rfl
   | some x => rw [hle _ _ hx] at hr; cases hr
inductive Rows {α:Type} (Enc:α -> List Value -> Prop):List Value -> List α -> Prop
 | nil:Rows Enc [] []
 | snoc {vs:List Value} {l:List α} {x:α} {ws:List Value}:Rows Enc vs l -> Enc x ws -> Rows Enc (vs ++ ws) (l ++ [x])
theorem Rows.len {α:Type} {Enc:α -> List Value -> Prop} {k:Nat} (hk:∀ x ws,Enc x ws -> ws.length = k) {vs:List Value} {l:List α} (r:Rows Enc vs l):vs.length = l.length * k := by
 induction r with
 | nil => simp
 | snoc r he ih => simp [ih,hk _ _ he,Nat.add_mul]
theorem Rows.at {α:Type} {Enc:α -> List Value -> Prop} {k:Nat} (hk:∀ x ws,Enc x ws -> ws.length = k) {vs:List Value} {l:List α} (r:Rows Enc vs l):∀ (i:Nat) x,l[i]? = some x -> ∃ ws,Enc x ws /\ ∀ (j:Nat) w,ws[j]? = some w -> vs[i * k + j]? = some w := by
 induction r with
 | nil => intro i x h; simp at h
 | snoc r he ih =>
  rename_i vs l y ws
  intro i x hi
  have hlen := r.len hk
  by_cases hlt:i < l.length
  ·rw [List.getElem?_append_left hlt] at hi
   obtain ⟨us,h1,h2⟩ := ih i x hi
   refine ⟨us,h1,fun j w hj => ?_⟩
   have hjl:j < us.length := (List.getElem?_eq_some_iff.1 hj).1
   rw [hk _ _ h1] at hjl
   have:i * k + j < vs.length := by
    rw [hlen]
    calc i * k + j < i * k + k := by omega
     _ = (i + 1) * k := by rw [Nat.add_mul]; omega
     _ <= l.length * k := Nat.mul_le_mul_right _ hlt
   rw [List.getElem?_append_left this]; exact h2 j w hj
  ·have hil:i = l.length := by
    have := (List.getElem?_eq_some_iff.1 hi).1
    simp at this; omega
   subst hil
   rw [List.getElem?_append_right (Nat.le_refl _),Nat.sub_self] at hi
   simp at hi; subst hi
   refine ⟨ws,he,fun j w hj => ?_⟩
   rw [List.getElem?_append_right (by omega),hlen]
   rw [show l.length * k + j - l.length * k = j by omega]; exact hj
theorem Rows.sl {α:Type} {E:Cells -> Addr -> α -> Prop} {Enc:α -> List Value -> Prop} {el:TypeId} {k:Nat} {h':Cells} {p:Option Addr} {n c:Nat} {vs:List Value} {l:List α} (hk:∀ x ws,Enc x ws -> ws.length = k) (hpos:0 < k) (hE:∀ a x ws,Enc x ws -> (∀ (j:Nat) w,ws[j]? = some w -> h'.cell? (a.add j) = some w) -> E h' a x)
  (own:OwnRow el k h' p n c vs) (r:Rows Enc vs l) (hb:l.length < 4611686018427387904):Sl E k h' p n l := by
 have hlen := r.len hk
 obtain ⟨h1,h2⟩ := own
 have hn:n = l.length := Nat.eq_of_mul_eq_mul_right hpos (h1.symm.trans hlen)
 refine ⟨hn,hb,fun i x hx => ?_⟩
 obtain ⟨ws,e1,e2⟩ := r.at hk i x hx
 rcases h2 with ⟨rfl,rfl,rfl⟩ | ⟨b,cs,rfl,hr,hcs,hnc,hv⟩
 ·have:l = [] := List.eq_nil_of_length_eq_zero hn.symm
  subst this; simp at hx
 ·refine ⟨_,rfl,hE _ _ _ e1 fun j w hj => ?_⟩
  rw [add_plain,add_plain,Nat.zero_add]
  simp only [Cells.cell?,hr,Option.isSome_none,Bool.false_eq_true,if_false]
  exact hv _ _ (e2 j w hj)
def IntEnc (x:Int) (ws:List Value):Prop := ws = [.int .i64 x]
theorem IntEnc.len:∀ x ws,IntEnc x ws -> ws.length = 1 := by rintro x _ rfl; rfl
theorem IntEnc.e {h':Cells}:∀ a x ws,IntEnc x ws -> (∀ (j:Nat) w,ws[j]? = some w -> h'.cell? (a.add j) = some w) -> IntE h' a x := by
 rintro a x _ rfl hc
 exact hc 0 _ rfl
structure Growing {α:Type} (Enc:α -> List Value -> Prop) (el:TypeId) (k:Nat) (h₀ h:Cells) (p:Option Addr) (n c:Nat) (l:List α):Prop where
 row:∃ vs,OwnRow el k h p n c vs /\ Rows Enc vs l
 new:NewIn h₀ p
theorem Growing.nil {α:Type} {Enc:α -> List Value -> Prop} {el:TypeId} {k:Nat} {h₀ h:Cells}:Growing Enc el k h₀ h none 0 0 [] := ⟨⟨[],OwnRow.nil,.nil⟩,NewIn.none⟩
theorem Growing.le {α:Type} {Enc:α -> List Value -> Prop} {el:TypeId} {k:Nat} {h₀ h h':Cells} {p:Option Addr} {n c:Nat} {l:List α} (hl:h.le h') (g:Growing Enc el k h₀ h p n c l):Growing Enc el k h₀ h' p n c l := by
 obtain ⟨vs,h1,h2⟩ := g.row
 exact ⟨⟨vs,h1.le hl,h2⟩,g.new⟩
theorem Growing.mv {α:Type} {Enc:α -> List Value -> Prop} {el:TypeId} {k m:Nat} {h₀:Cells} {h h':LH} {p:Option Addr} {n c:Nat} {l:List α} (hm:∃ es c,h.get m = some (true,.map es c)) (hl:Mv m h h') (g:Growing Enc el k h₀ h.get p n c l):Growing Enc el k h₀ h'.get p n c l := by
 obtain ⟨vs,⟨h1,h2⟩,h3⟩ := g.row
 refine ⟨⟨vs,⟨h1,?_⟩,h3⟩,g.new⟩
 rcases h2 with h2 | ⟨r,cs,e1,e2,e3⟩
 ·exact .inl h2
 ·refine .inr ⟨r,cs,e1,hl.keep _ _ ?_ e2,e3⟩
  rintro rfl
  obtain ⟨es,c',hm⟩ := hm
  rw [hm] at e2; cases e2
theorem Growing.count {α:Type} {Enc:α -> List Value -> Prop} {el:TypeId} {k:Nat} {h₀ h:Cells} {p:Option Addr} {n c:Nat} {l:List α} (hk:∀ x ws,Enc x ws -> ws.length = k) (hpos:0 < k) (g:Growing Enc el k h₀ h p n c l):n = l.length := by
 obtain ⟨vs,h1,h2⟩ := g.row
 exact Nat.eq_of_mul_eq_mul_right hpos (h1.1.symm.trans (h2.len hk))
theorem Growing.sl {α:Type} {E:Cells -> Addr -> α -> Prop} {Enc:α -> List Value -> Prop} {el:TypeId} {k:Nat} {h₀ h:Cells} {p:Option Addr} {n c:Nat} {l:List α} (hk:∀ x ws,Enc x ws -> ws.length = k) (hpos:0 < k) (hE:∀ a x ws,Enc x ws -> (∀ (j:Nat) w,ws[j]? = some w -> h.cell? (a.add j) = some w) -> E h a x)
  (g:Growing Enc el k h₀ h p n c l) (hb:l.length < 4611686018427387904):Sl E k h p n l := by
 obtain ⟨vs,h1,h2⟩ := g.row
 exact h2.sl hk hpos hE h1 hb
section
variable {P:Program} {X:XP} {Q:Leaf -> LH -> Prop}
theorem t_grow {α:Type} {Enc:α -> List Value -> Prop} {h h₀:LH} {k:Value -> T} {ts:Array TypeId} {ty sT xT el xe:TypeId} {s by_:Nat} {z:Value} {p:Option Addr} {n c mc:Nat} {b:Addr} {l:List α} {x:α} {ws:List Value} (h0:ts[0]? = some sT) (h1:ts[1]? = some xT) (hu:P.underlying sT = some (.slice el)) (hx:P.underlying xT = some (.slice xe))
  (hi:(P.info? el).map (fun i => (i.size,i.bytes,i.zero)) = some (s,by_,some z)) (hsz:z.cells.size = s) (hb:by_ <= 1024) (hn:n + 1 <= 2 ^ 30) (g:Growing Enc el s h₀.get h.get p n c l) (hle:h₀.le h) (he:Enc x ws) (hl:ws.length = s) (hc:∀ (j:Nat) v,ws[j]? = some v -> h.get.cell? (b.add j) = some v) (one:∀ v ∈ ws,isOne v = true)
  (hk:∀ p' c' h',h₀.le h' -> (∀ r y,(∀ a,p = some a -> a.block ≠ r) -> h.get r = some y -> h'.get r = some y) -> Growing Enc el s h₀.get h'.get p' (n + 1) c' (l ++ [x]) -> (k (.slice p' (n + 1) c')).wp X P Q h'):(T.sem false (Builtin.append_ ts ty #[.slice p n c,.slice (some b) 1 mc]) k).wp X P Q h := by
 obtain ⟨vs,o,r⟩ := g.row
 refine t_append h0 h1 hu hx hi hsz hb hn o (by rw [hl,Nat.one_mul]) hc one (by omega) fun p' c' h' a b c => ?_
 obtain ⟨l1,l2⟩ := after_append hle.1 g.new b c
 refine hk p' c' _ ⟨l1,hle.2⟩ (fun r y hr hy => b r y hy hr) ⟨⟨vs ++ ws,a,.snoc r he⟩,l2⟩
end
end Go.TM
end
section
namespace Go.TM
open Go Go.Conc
variable {P:Program}
theorem spawn_wk {f:FuncId} {first args cap hargs:Array Value} {hc:Cells} {s:Script} (hne:s ≠ []) (ha:(first ++ args) ++ cap = hargs) (c:FWK XW P .deferred f hargs ⟨hc,[],[],s⟩ fun _ _ => False) :
  Wk P (G (baseOf P [deferOf (.func (.func f) first cap) args]) []) ⟨hc,[],[],s⟩ := by
 obtain ⟨⟨fn,hf,hb,hname⟩,hrun⟩ := c
 have hgo := hrun false _ (wk_closed P) [baseOf P []] (.inr ⟨rfl,rfl⟩) (fun _ _ _ _ _ _ _ hq => hq.elim) hne
 have hbn:fn.body.isNone = false := by cases h:fn.body <;> simp_all
 refine .step (N := fun g h => g = G (Frame.enter P f hargs .deferred) [baseOf P []] /\ h = ⟨hc,[],[],s⟩) hne ?_ ?_
 ·intro w hfit
  refine ⟨_,w,#[],hc,?_,Tr.refl hfit,by simp,rfl,rfl⟩
  have hcall:(callFunc f hargs).runT P w #[] = (.ok (.enter f hargs) w,#[]) := by
   show ((program).bind _).runT P w #[] = _
   simp only [program,Sem.bind,Sem.runT,hf,hname,hbn,Bool.false_eq_true,if_false]
   rfl
  have h1:(callFunc f hargs).run P w = .ok (.enter f hargs) w := by rw [<- Sem.runT_fst _ _ _ #[],hcall]
  have h2:(callFunc f hargs).events P w #[] = #[] := by show ((callFunc f hargs).runT P w #[]).2 = _; rw [hcall]
  have hinv:invoke (deferOf (.func (.func f) first cap) args).target (deferOf (.func (.func f) first cap) args).args = callFunc f hargs := by rw [<- ha]; rfl
  have hnil:((deferOf (.func (.func f) first cap) args).target matches .nil) = false := rfl
  have hcd:∀ fr cs,callDeferred P fr cs none (deferOf (.func (.func f) first cap) args) w = .go (G (Frame.enter P f hargs .deferred) (fr :: cs)) w (seen P fr.fn #[]) := by
   intro fr cs
   unfold callDeferred
   simp only [hinv,hnil,Bool.false_and,Bool.false_eq_true,if_false,hcall]
   rfl
  show unwind P false (baseOf P [deferOf (.func (.func f) first cap) args]) [] none w = _
  unfold unwind
  simp only [baseOf,deferOf]
  exact hcd _ _
 ·rintro _ _ ⟨rfl,rfl⟩; exact hgo
theorem spawnW {f:FuncId} {first args cap hargs:Array Value} {h:LH} {Q:LH -> Prop} (F:Nat -> Bool) (hc:Cells) (s:Script) (hne:s ≠ []) (ha:(first ++ args) ++ cap = hargs) (hhc:∀ r x,hc r = some x -> x.1 = false /\ freezeC F h.get r = some x)
  (hch:∀ y ∈ s,y.1 ∈ h.chans) (c:FWK XW P .deferred f hargs ⟨hc,[],[],s⟩ fun _ _ => False) (hQ:Q { h with get := freezeC F h.get,pend := h.pend ++ [s] }):SpawnW XT P (.func (.func f) first cap) args h Q := by
 intro main R hR fr cs _ _ hst k d hk
 obtain ⟨rfl,_,h2,_,_⟩ := hR.2
 refine h2 fr cs (h.add k) (fun r => F r && (h.get r).isSome) hc _ s ⟨hst⟩ ?_ hne hch (spawn_wk hne ha c) ?_
 ·intro r x hx
  obtain ⟨a,b⟩ := hhc r x hx
  refine ⟨a,?_⟩
  show freezeC _ (h.get.add k) r = _
  rw [freezeC_add]; exact Cells.add_left b
 ·have e:freezeC (fun r => F r && (h.get r).isSome) (h.add k).get = (freezeC F h.get).add k := freezeC_add F h.get k
  rw [e]
  refine hk { h with get := freezeC F h.get,pend := h.pend ++ [s] } ?_ hQ
  intro r
  rcases d r with hr | hr
  ·left; simp only [freezeC,hr]
  ·exact .inr hr
theorem drop_add {a k:Cells} {c:Nat} (hk:k c = none):dropC (a.add k) c = (dropC a c).add k := by
 funext r
 unfold dropC Cells.add
 by_cases e:r = c
 ·subst e; simp [hk]
 ·simp [e]
theorem upd_add {a k:Cells} {c:Nat} {x:Bool × Obj}:(a.add k).upd c x = (a.upd c x).add k := by
 funext r
 unfold Cells.upd Cells.add
 by_cases e:r = c <;> simp [e]
theorem Disj.drop {a k:Cells} (d:Disj a k) (c:Nat):Disj (dropC a c) k := by
 intro r
 rcases d r with hr | hr
 ·left; unfold dropC; split
  ·rfl
  ·exact hr
 ·exact .inr hr
theorem SpawnW.opened {v:Value} {args:Array Value} {h:LH} {Q:LH -> Prop} (c s:Nat) (hs:h.get c = some (true,.chan 0 #[] false s s false)) (hS:SpawnW XT P v args { h with get := dropC h.get c,chans := c :: h.chans } Q):SpawnW XT P v args h Q := by
 intro main R hR fr cs hat hstk hst k d hk
 have hkc:k c = none := by
  rcases d c with h' | h'
  ·rw [hs] at h'; cases h'
  ·exact h'
 refine hR.2.2.2.2.1 _ (h.add k) c s (Cells.add_left hs) ?_
 have := hS main R hR fr cs hat hstk hst k (d.drop c) hk
 unfold LH.add at this ⊢
 simp only [drop_add hkc]
 exact this
theorem commW_recv {last:Bool} {cases:Array CommCase} {shape:CommShape} {h:LH} {Q:Value -> LH -> Prop} (recv:∀ (k:Nat) (cc:CommCase),cases[k]? = some cc -> ∃ c z,cc = rcase c z /\ c ∈ h.chans) (some_:h.pend ≠ [])
  (heads:∀ s ∈ h.pend,∃ (c:Nat) (φ:Value -> Cells -> Prop) (s':Script) (k:Nat) (z:Value),s = (c,φ) :: s' /\ cases[k]? = some (rcase c z))
  (hQ:∀ pre φ s post (k:Nat) c v hv z,h.pend = pre ++ ((c,φ) :: s) :: post -> cases[k]? = some (rcase c z) -> Disj h.get hv -> (∀ r x,hv r = some x -> x.1 = true) -> φ v hv ->
   Q (commResult cases shape (k:Nat) v true) { h with get := h.get.add hv,pend := pre ++ cons' s post }):CommW XT P last cases shape h Q := by
 intro main R hR fr cs _ _ _ hst k d hk
 obtain ⟨rfl,h1,_,_,_⟩ := hR.2
 refine h1 fr cs cases shape (h.add k) ⟨hst,recv,some_,heads⟩ ?_
 intro pre φ s post j c v hv z hp hcase hd hown hφ
 have d1:Disj h.get hv := hd.of_add_left
 have d2:Disj k hv := Disj.of_add_right d hd
 have e:((h.get.add hv).add k) = ((h.get.add k).add hv) := Cells.add_swap d2.symm
 have := hk _ { h with get := h.get.add hv,pend := pre ++ cons' s post } (Disj.add d d2.symm) (hQ pre φ s post j c v hv z hp hcase d1 hown hφ)
 unfold LH.add at this
 simp only [e] at this
 exact this
theorem CommW.closed {last:Bool} {cases:Array CommCase} {shape:CommShape} {h:LH} {Q:Value -> LH -> Prop}
  (hC:CommW XT P last cases shape h fun v h' => Q v h' \/ ∃ c ∈ h'.chans,h'.pend = [] /\ ∀ s,h'.get c = none -> Q v { h' with get := h'.get.upd c (true,.chan 0 #[] false s s false),chans := h'.chans.filter (· ≠ c) }):CommW XT P last cases shape h Q := by
 intro main R hR fr cs hat hstk hl hst k d hk
 refine hC main R hR fr cs hat hstk hl hst k d ?_
 rintro v h' d' (hq | ⟨c,hc,hp,hq⟩)
 ·exact hk v h' d' hq
 ·refine hR.2.2.2.2.2 _ (h'.add k) c hc hp ?_
  intro hcn s
  have hhc:h'.get c = none := by
   cases hx:h'.get c with
   | none => rfl
   | some x => rw [show (h'.add k).get c = some x from Cells.add_left hx] at hcn; cases hcn
  have hkc:k c = none := by
   have := hcn
   rw [show (h'.add k).get c = k c from Cells.add_right hhc] at this; exact this
  have d2:Disj (h'.get.upd c (true,.chan 0 #[] false s s false)) k := by
   intro r
   by_cases e:r = c
   ·right; rw [e]; exact hkc
   ·rw [Cells.upd_ne _ _ e]; exact d' r
  have := hk v _ d2 (hq s hhc)
  unfold LH.add at this ⊢
  simp only [upd_add]
  exact this
theorem commW_send {last:Bool} {c:Nat} {v z:Value} {φ:Value -> Cells -> Prop} {s:Script} {h:LH} {hv hr:Cells} {Q:Value -> LH -> Prop} (todo:h.todo = (c,φ) :: s) (get:h.get = hv.add hr) (disj:Disj hv hr) (own:∀ r x,hv r = some x -> x.1 = true)
  (val:φ v hv) (hl:s = [] -> last = true) (hQ:s ≠ [] -> Q undef { h with get := hr,todo := s }):CommW XW P last #[scase c v z] .send h Q := by
 intro main R hR fr cs hat hstk hlast hst k d hk
 obtain ⟨rfl,h1⟩ := hR.2
 have hs:Sends P fr cs h c z v φ s hv hr := ⟨hat,hst,todo,get,disj,own,val⟩
 exact h1 fr cs (h.add k) c z v φ s hv (hr.add k) hstk (hs.frame d) (fun e => hlast (hl e)) fun hne => hk undef { h with get := hr,todo := s } (hs.rest d) (hQ hne)
end Go.TM
end
section
namespace Go.TM
open Go Go.Conc
variable {P:Program} {X:XP} {Q:Leaf -> LH -> Prop} {h:LH}
theorem t_spawn {v:Value} {args:Array Value} {k:T} (hs:SpawnW X P v args h fun h' => k.wp X P Q h'):(T.spawn v args k).wp X P Q h := hs
theorem t_comm {last:Bool} {cases:Array CommCase} {shape:CommShape} {k:Value -> T} (hc:CommW X P last cases shape h fun v h' => (k v).wp X P Q h'):(T.comm last cases shape k).wp X P Q h := hc
theorem t_makeChan {t el:TypeId} {d:ChanDir} {s b:Nat} {z:Option Value} {K:Value -> T} (hu:P.underlying t = some (.chan d el)) (hi:(P.info? el).map (fun i => (i.size,i.bytes,i.zero)) = some (s,b,z))
  (hk:∀ r,h.get r = none -> (K (.chan (some r))).wp X P Q { h with get := h.get.upd r (true,.chan 0 #[] false 0 0 false) }):(T.sem false (Instr.makeChan t (.int .i64 0)) K).wp X P Q h := by
 obtain ⟨inf,g1,_,_,_⟩ := info_of hi
 refine t_sem (A := fun v h' => ∃ r,h.get r = none /\ v = .chan (some r) /\ h' = h.get.upd r (true,.chan 0 #[] false 0 0 false)) ?_ (by rintro v h' ⟨r,hr,rfl,rfl⟩; exact hk r hr)
 unfold Instr.makeChan
 have e:IntKind.i64.max = 9223372036854775807 := rfl
 simp only [asInt,asIntOf,lwp_bind,lwp_pure,lwp_underlying hu,lwp_typeInfo g1]
 rw [if_neg (by rw [e]; omega)]
 rw [lwp_bind]
 intro r hr
 exact ⟨r,hr,rfl,rfl⟩
theorem t_close {ts:Array TypeId} {ty:TypeId} {c s:Nat} {K:Value -> T} (hc:h.get c = some (true,.chan 0 #[] false s s false)) (hk:(K (.tuple #[])).wp X P Q { h with get := h.get.upd c (true,.chan 0 #[] true s s false) }):(T.sem false (Builtin.close_ ts ty #[.chan (some c)]) K).wp X P Q h := by
 refine t_sem (A := fun v h' => v = .tuple #[] /\ h' = h.get.upd c (true,.chan 0 #[] true s s false)) ?_ (by rintro v h' ⟨rfl,rfl⟩; exact hk)
 change Sem.lwp P (getObj c >>= _) _ _ _
 rw [lwp_bind]
 exact ⟨_,_,hc,trivial,⟨_,hc,trivial⟩,rfl,rfl⟩
theorem t_eqNil {t el:TypeId} {x y:Operand} {a:Option Addr} {n c:Nat} {K:Value -> T} (hu:P.underlying t = some (.slice el)) (hk:(K (.bool a.isNone)).wp X P Q h) :
  (T.sem false (Sem.bind (eqGuard .eql t x y (.slice a n c) (.slice none 0 0)) fun _ => binOp .eql t (.slice a n c) (.slice none 0 0)) K).wp X P Q h := by
 refine t_sem (A := fun w h' => w = .bool a.isNone /\ h' = h.get) (Sem.lwp_bind _ _ ?_) (by rintro w h' ⟨rfl,rfl⟩; exact hk)
 unfold eqGuard
 simp only [Bool.not_true,Bool.false_eq_true,if_false,lwp_pure]
 unfold binOp Op.equal
 have hmd:Op.maxDepth = 9999 + 1 := rfl
 rw [lwp_bind,hmd,Op.equalIn,lwp_bind,lwp_underlying hu]
 cases a <;> exact ⟨rfl,rfl⟩
theorem t_neNil {t el:TypeId} {x y:Operand} {a:Option Addr} {n c:Nat} {K:Value -> T} (hu:P.underlying t = some (.slice el)) (hk:(K (.bool a.isSome)).wp X P Q h) :
  (T.sem false (Sem.bind (eqGuard .neq t x y (.slice a n c) (.slice none 0 0)) fun _ => binOp .neq t (.slice a n c) (.slice none 0 0)) K).wp X P Q h := by
 refine t_sem (A := fun w h' => w = .bool a.isSome /\ h' = h.get) (Sem.lwp_bind _ _ ?_) (by rintro w h' ⟨rfl,rfl⟩; exact hk)
 unfold eqGuard
 simp only [Bool.not_true,Bool.false_eq_true,if_false,lwp_pure]
 unfold binOp Op.equal
 have hmd:Op.maxDepth = 9999 + 1 := rfl
 rw [lwp_bind,hmd,Op.equalIn,lwp_bind,lwp_underlying hu]
 cases a <;> exact ⟨rfl,rfl⟩
theorem t_build0 {K:Value -> T} {t el:TypeId} {s b:Nat} {z:Option Value} (hu:P.underlying t = some (.slice el)) (hi:(P.info? el).map (fun i => (i.size,i.bytes,i.zero)) = some (s,b,z))
  (hk:∀ r,h.get r = none -> (K (.slice (some ⟨r,0,none⟩) 0 0)).wp X P Q { h with get := h.get.upd r (true,.cells #[] el (0,0)) }):(T.sem false (Instr.buildSlice t 0 #[]) K).wp X P Q h := by
 obtain ⟨inf,g1,_,_,_⟩ := info_of hi
 refine t_sem (A := fun v h' => ∃ r,h.get r = none /\ v = .slice (some ⟨r,0,none⟩) 0 0 /\ h' = h.get.upd r (true,.cells #[] el (0,0))) ?_ (by rintro v h' ⟨r,hr,rfl,rfl⟩; exact hk r hr)
 unfold Instr.buildSlice
 simp only [lwp_bind,lwp_underlying hu,lwp_sizeOf g1,Nat.zero_mul,lwp_pure]
 rw [if_neg (by omega)]
 simp only [if_true,lwp_bind,lwp_pure]
 have hf:Instr.fill (fun i => some (i * inf.size,inf.size)) (Array.map (fun x => (#[]:Array Value)[x % (#[]:Array Value).size]!) (Array.range 0)) (#[]:Array (Nat × Value)).toList = some #[] := by simp [Instr.fill]
 rw [hf]
 simp only [lwp_bind]
 exact lwp_newRow fun r hr => ⟨r,hr,rfl,rfl⟩
end Go.TM
end
section
namespace Go.TM
open Go Go.Conc
theorem Addr.add_add' (a:Addr) (x y:Nat):(a.add x).add y = a.add (x + y) := by
 unfold Addr.add
 by_cases h1:x = 0
 ·subst h1; simp
 ·by_cases h2:y = 0
  ·subst h2; simp [h1]
  ·simp [h1,h2]; omega
def ToldE {α:Type} (E:Cells -> Addr -> α -> Prop) (Enc:α -> List Value -> Prop) (k:Nat) (h:Cells):Prop := ∀ a x,E h a x -> ∃ ws,Enc x ws /\ ws.length = k /\ (∀ (j:Nat) w,ws[j]? = some w -> h.cell? (a.add j) = some w) /\ ∀ w ∈ ws,isOne w = true
theorem flat {α:Type} {E:Cells -> Addr -> α -> Prop} {Enc:α -> List Value -> Prop} {k:Nat} {h:Cells} (he:ToldE E Enc k h) {b:Addr} {n:Nat} {l:List α} (s:Sl E k h (some b) n l):∀ i,i <= l.length -> ∃ vs,Rows Enc vs (l.take i) /\ vs.length = i * k /\ (∀ (t:Nat) v,vs[t]? = some v -> h.cell? (b.add t) = some v) /\ ∀ v ∈ vs,isOne v = true := by
 intro i
 induction i with
 | zero => intro _; exact ⟨[],.nil,by simp,fun t v hv => by simp at hv,fun v hv => by simp at hv⟩
 | succ i ih =>
  intro hi
  obtain ⟨vs,h1,h2,h3,h4⟩ := ih (by omega)
  obtain ⟨x,a,hx,ha,hE⟩ := s.at (i := i) (by rw [s.1]; omega)
  cases ha
  obtain ⟨ws,w1,w2,w3,w4⟩ := he _ _ hE
  refine ⟨vs ++ ws,?_,by rw [List.length_append,h2,w2,Nat.add_mul]; omega,fun t v hv => ?_,fun v hv => ?_⟩
  ·rw [List.take_add_one,hx]; exact h1.snoc w1
  ·by_cases ht:t < vs.length
   ·rw [List.getElem?_append_left ht] at hv; exact h3 t v hv
   ·rw [List.getElem?_append_right (by omega)] at hv
    have := w3 _ v hv
    rw [Addr.add_add'] at this
    rw [show t = i * k + (t - vs.length) by omega]; exact this
  ·rcases List.mem_append.1 hv with hv | hv
   ·exact h4 v hv
   ·exact w4 v hv
theorem Rows.append {α:Type} {Enc:α -> List Value -> Prop} {vs:List Value} {l:List α} (r:Rows Enc vs l) {ws:List Value} {l':List α} (r':Rows Enc ws l'):Rows Enc (vs ++ ws) (l ++ l') := by
 induction r' with
 | nil => simpa using r
 | snoc r' he ih => rw [<- List.append_assoc,<- List.append_assoc]; exact ih.snoc he
section
variable {P:Program} {X:XP} {Q:Leaf -> LH -> Prop}
theorem t_append0 {h:LH} {k:Value -> T} {ts:Array TypeId} {ty sT xT el xe:TypeId} {s by_:Nat} {z:Option Value} {p q:Option Addr} {n c mc:Nat} (h0:ts[0]? = some sT) (h1:ts[1]? = some xT) (hu:P.underlying sT = some (.slice el)) (hx:P.underlying xT = some (.slice xe))
  (hi:(P.info? el).map (fun i => (i.size,i.bytes,i.zero)) = some (s,by_,z)) (hnc:n <= c) (hk:(k (.slice p n c)).wp X P Q h):(T.sem false (Builtin.append_ ts ty #[.slice p n c,.slice q 0 mc]) k).wp X P Q h := by
 obtain ⟨inf,g1,_,_,_⟩ := info_of hi
 refine t_sem (A := fun v h' => v = .slice p n c /\ h' = h.get) ?_ (by rintro v h' ⟨rfl,rfl⟩; exact hk)
 unfold Builtin.append_
 rw [h0,h1]
 simp only [List.getElem?_toArray,List.getElem?_cons_zero,List.getElem?_cons_succ]
 simp only [lwp_bind,lwp_underlying hu,lwp_sizeOf g1,lwp_underlying hx,lwp_pure,Bool.false_eq_true,if_false,Bool.not_false,if_true,Builtin.lenOf,Nat.add_zero,if_pos hnc]
 cases q with
 | none =>
  simp only [Builtin.firstCells,lwp_pure]
  cases p with
  | none => exact ⟨rfl,rfl⟩
  | some a => exact ⟨rfl,rfl⟩
 | some b =>
  simp only [Builtin.firstCells,Nat.zero_mul]
  refine lwp_loads (l := []) rfl (fun t v hv => by simp at hv) ?_
  cases p with
  | none => exact ⟨rfl,rfl⟩
  | some a => exact ⟨rfl,rfl⟩
theorem OwnRow.le_cap {el:TypeId} {k:Nat} {h:Cells} {p:Option Addr} {n c:Nat} {vs:List Value} (o:OwnRow el k h p n c vs):n <= c := by
 rcases o.2 with ⟨_,h1,h2⟩ | ⟨_,_,_,_,_,h,_⟩
 ·omega
 ·exact h
theorem t_copy {α:Type} {E:Cells -> Addr -> α -> Prop} {Enc:α -> List Value -> Prop} {h h₀:LH} {k:Value -> T} {ts:Array TypeId} {ty sT xT el xe:TypeId} {s by_:Nat} {z:Value} {p q:Option Addr} {n c m mc:Nat} {l l1:List α} (h0:ts[0]? = some sT) (h1:ts[1]? = some xT) (hu:P.underlying sT = some (.slice el)) (hx:P.underlying xT = some (.slice xe))
  (hi:(P.info? el).map (fun i => (i.size,i.bytes,i.zero)) = some (s,by_,some z)) (hsz:z.cells.size = s) (hb:by_ <= 1024) (hn:n + m <= 2 ^ 30) (g:Growing Enc el s h₀.get h.get p n c l) (hle:h₀.le h) (src:Sl E s h.get q m l1) (he:ToldE E Enc s h.get)
  (hk:∀ p' c' h',h₀.le h' -> (∀ r y,(∀ a,p = some a -> a.block ≠ r) -> h.get r = some y -> h'.get r = some y) -> Growing Enc el s h₀.get h'.get p' (n + m) c' (l ++ l1) -> (k (.slice p' (n + m) c')).wp X P Q h'):(T.sem false (Builtin.append_ ts ty #[.slice p n c,.slice q m mc]) k).wp X P Q h := by
 obtain ⟨vs,o,r⟩ := g.row
 by_cases hm:m = 0
 ·subst hm
  have hl1:l1 = [] := List.eq_nil_of_length_eq_zero src.1.symm
  subst hl1
  refine t_append0 h0 h1 hu hx hi o.le_cap ?_
  have := hk p c h hle (fun r y _ hy => hy) (by rw [List.append_nil]; exact g)
  exact this
 ·obtain ⟨x,b,_,hb',_⟩ := src.at (i := 0) (by omega)
  subst hb'
  obtain ⟨ws,w1,w2,w3,w4⟩ := flat he src l1.length (Nat.le_refl _)
  rw [List.take_length] at w1
  have hm' := src.1
  refine t_append h0 h1 hu hx hi hsz hb hn o (by rw [w2,hm']) w3 w4 (by omega) fun p' c' h' a b c => ?_
  obtain ⟨l1',l2'⟩ := after_append hle.1 g.new b c
  exact hk p' c' _ ⟨l1',hle.2⟩ (fun r y hr hy => b r y hy hr) ⟨⟨vs ++ ws,a,r.append w1⟩,l2'⟩
theorem t_build0G {α:Type} {Enc:α -> List Value -> Prop} {h h₀:LH} {K:Value -> T} {t el:TypeId} {s b:Nat} {z:Option Value} (hu:P.underlying t = some (.slice el)) (hi:(P.info? el).map (fun i => (i.size,i.bytes,i.zero)) = some (s,b,z)) (hle:h₀.le h)
  (hk:∀ r h',h.get r = none -> h.le h' -> Growing Enc el s h₀.get h'.get (some ⟨r,0,none⟩) 0 0 [] -> (K (.slice (some ⟨r,0,none⟩) 0 0)).wp X P Q h'):(T.sem false (Instr.buildSlice t 0 #[]) K).wp X P Q h := by
 refine t_build0 hu hi fun r hr => ?_
 refine hk r _ hr (LH.upd_le hr) ⟨⟨[],⟨by simp,.inr ⟨r,#[],rfl,Cells.upd_self _ _ _,by simp,Nat.le_refl _,fun j v hv => by simp at hv⟩⟩,.nil⟩,fun a ha => ?_⟩
 cases ha
 cases hx:h₀.get r with
 | none => rfl
 | some x => rw [hle.1 _ _ hx] at hr; cases hr
end
end Go.TM
end
section
namespace Go.TM
open Go Go.Conc Go.ChangeShapes Go.RowKit
theorem trodAll9 {H:Type} {enc:TypeId × Value -> H} {P:Program} {w:World} {base:Nat} {spare:Nat -> Bool} {held:Bool} {t0 t1 t2 t3 t4 t5 t6 t7 t8:TypeId} {args:Array Value} {ds:List (DataW H)} {ps:List MemPlace} (h:DataW.TrodAll enc P w base spare held [t0,t1,t2,t3,t4,t5,t6,t7,t8] args.toList ds ps) :
  ∃ v0 v1 v2 v3 v4 v5 v6 v7 v8 d0 d1 d2 d3 d4 d5 d6 d7 d8 p0 p1 p2 p3 p4 p5 p6 p7 p8,args = #[v0,v1,v2,v3,v4,v5,v6,v7,v8] /\ ds = [d0,d1,d2,d3,d4,d5,d6,d7,d8] /\ ps = p0 ++ p1 ++ p2 ++ p3 ++ p4 ++ p5 ++ p6 ++ p7 ++ p8 /\ DataW.Trod enc P w base spare held t0 v0 d0 p0 /\ DataW.Trod enc P w base spare held t1 v1 d1 p1 /\ DataW.Trod enc P w base spare held t2 v2 d2 p2 /\ DataW.Trod enc P w base spare held t3 v3 d3 p3 /\ DataW.Trod enc P w base spare held t4 v4 d4 p4 /\ DataW.Trod enc P w base spare held t5 v5 d5 p5 /\ DataW.Trod enc P w base spare held t6 v6 d6 p6 /\ DataW.Trod enc P w base spare held t7 v7 d7 p7 /\ DataW.Trod enc P w base spare held t8 v8 d8 p8 := by
 obtain ⟨v0,vs0,d0,ds0,p0,q0,hargs,rfl,rfl,hd0,hr0⟩ := trodAll_cons h
 obtain ⟨v1,vs1,d1,ds1,p1,q1,rfl,rfl,rfl,hd1,hr1⟩ := trodAll_cons hr0
 obtain ⟨v2,vs2,d2,ds2,p2,q2,rfl,rfl,rfl,hd2,hr2⟩ := trodAll_cons hr1
 obtain ⟨v3,vs3,d3,ds3,p3,q3,rfl,rfl,rfl,hd3,hr3⟩ := trodAll_cons hr2
 obtain ⟨v4,vs4,d4,ds4,p4,q4,rfl,rfl,rfl,hd4,hr4⟩ := trodAll_cons hr3
 obtain ⟨v5,vs5,d5,ds5,p5,q5,rfl,rfl,rfl,hd5,hr5⟩ := trodAll_cons hr4
 obtain ⟨v6,vs6,d6,ds6,p6,q6,rfl,rfl,rfl,hd6,hr6⟩ := trodAll_cons hr5
 obtain ⟨v7,vs7,d7,ds7,p7,q7,rfl,rfl,rfl,hd7,hr7⟩ := trodAll_cons hr6
 obtain ⟨v8,vs8,d8,ds8,p8,q8,rfl,rfl,rfl,hd8,hr8⟩ := trodAll_cons hr7
 obtain ⟨rfl,rfl,rfl⟩ := trodAll_nil hr8
 exact ⟨v0,v1,v2,v3,v4,v5,v6,v7,v8,d0,d1,d2,d3,d4,d5,d6,d7,d8,p0,p1,p2,p3,p4,p5,p6,p7,p8,by cases args; simp_all,rfl,by simp,hd0,hd1,hd2,hd3,hd4,hd5,hd6,hd7,hd8⟩
end Go.TM
end
section
namespace Go.Proofs.YtfkfohpnpljihaaGreatDoor
open Go Go.TM Go.Proofs Go.ChangeShapes Go.WideShapes Go.RowKit
set_option maxRecDepth 100000
theorem UT:UseTy Tryz.prog 3 30 29 22 32 23 34 24 26 where
 int := by kernel_rfl
 int1 := by kernel_rfl
 bytes := ⟨of_decide_eq_true (by kernel_rfl),of_decide_eq_true (by kernel_rfl),of_decide_eq_true (by kernel_rfl),of_decide_eq_true (by kernel_rfl)⟩
 ints := by kernel_rfl
 ints1 := by kernel_rfl
 span := ⟨_,Tryz.underlying29,rfl⟩
 span2 := by kernel_rfl
 spans := by kernel_rfl
 spans1 := by kernel_rfl
 paper := ⟨_,Tryz.underlying32,rfl⟩
 paper4 := by kernel_rfl
 papers := by kernel_rfl
 papers1 := by kernel_rfl
 req := ⟨_,Tryz.underlying34,rfl⟩
 req3 := by kernel_rfl
 reqs := by kernel_rfl
 reqs1 := by kernel_rfl
 file := ⟨_,Tryz.underlying26,rfl⟩
 file7 := by kernel_rfl
def partsN : String := "touchmark/use.parts"
theorem gParts:Tryz.prog.globalNamed partsN = some 1 := by kernel_rfl
theorem tParts:(Tryz.prog.globals[1]?).map (·.type) = some 242 := by kernel_rfl
theorem cells98:Tryz.prog.cellsOf 242 = 4 := by kernel_rfl
theorem array4 {α:Type}:∀ {l:List α},l.length = 4 -> ∃ a b c d,l = [a,b,c,d]
 | [a,b,c,d],_ => ⟨a,b,c,d,rfl⟩
theorem parts_of_laid {l:List (String × DataW Unit)} {W:World} (h:laidMetH Tryz.prog l W) (hm:(partsN,Rows.laid_touchmark_use_parts) ∈ l):Parts (getW W) := by
 obtain ⟨g,t,cs,fuel,p,hg,ht,hv,hd⟩ := laidMetH.funcs h (n := partsN) hm
 obtain rfl := Option.some.inj (gParts.symm.trans hg)
 obtain rfl := Option.some.inj (tParts.symm.trans ht)
 obtain ⟨xs,m,_,hx,hl,hn,hel⟩ := DataW.trod_array Tryz.underlying242 hd
 rw [cells98] at hl
 have hcell:∀ j:Nat,W.cell? ⟨1,j,none⟩ = cs[j]? := World.var?_cell gParts hv
 obtain ⟨x0,x1,x2,x3,rfl⟩ := array4 hn
 obtain ⟨v0,v1,v2,v3,hc⟩ := array4 hl
 have e1:Tryz.prog.cellsOf 124 = 1 := by kernel_rfl
 have ec:∀ j:Nat,cs[j]? = [v0,v1,v2,v3][j]? := fun j => by rw [<- hc]; simp
 simp only [Prod.mk.injEq] at hx
 obtain ⟨hx,_⟩ := hx
 simp only [DataW.funcsOut,DataW.funcsOutAll,List.map_cons,List.map_nil,DataW.agg.injEq,List.cons.injEq,beq_self_eq_true,if_true,and_true] at hx
 obtain ⟨h0,h1,h2,h3⟩ := hx
 have k0 := hel 0 (by decide)
 have k1 := hel 1 (by decide)
 have k2 := hel 2 (by decide)
 have k3 := hel 3 (by decide)
 rw [hc,e1] at k0 k1 k2 k3
 obtain ⟨d0,q0⟩ := x0; obtain ⟨d1,q1⟩ := x1; obtain ⟨d2,q2⟩ := x2; obtain ⟨d3,q3⟩ := x3
 simp only at h0 h1 h2 h3
 subst h0; subst h1; subst h2; subst h3
 have r0:v0 = .func (.func 237) #[] #[] := func_of_trod (P := Tryz.prog) Tryz.underlying124 (by kernel_rfl) k0
 have r1:v1 = .func (.func 238) #[] #[] := func_of_trod (P := Tryz.prog) Tryz.underlying124 (by kernel_rfl) k1
 have r2:v2 = .func (.func 239) #[] #[] := func_of_trod (P := Tryz.prog) Tryz.underlying124 (by kernel_rfl) k2
 have r3:v3 = .func (.func 240) #[] #[] := func_of_trod (P := Tryz.prog) Tryz.underlying124 (by kernel_rfl) k3
 intro j hj
 refine getW_cell ?_
 rw [hcell,ec]
 match j,hj with
 | 0,_ => simp [r0]
 | 1,_ => simp [r1]
 | 2,_ => simp [r2]
 | 3,_ => simp [r3]
def noUse:Value := .agg #[.int .i64 0,.int .i64 0,.int .i64 0,.int .i64 0,.slice none 0 0,.slice none 0 0,.slice none 0 0]
end Go.Proofs.YtfkfohpnpljihaaGreatDoor
namespace Go.Proofs.YtfkfohpnpljihaaGreatDoor.Tre
open Go Go.TM Go.Proofs Go.ChangeShapes Go.WideShapes Go.RowKit
set_option maxRecDepth 100000
theorem own:ownKnob Tryz.prog.godebug = none := by kernel_rfl
theorem lo:laidOutB Tryz.prog = true := by kernel_rfl
theorem und57:Tryz.prog.underlying 27 = some (.int .u16) := by kernel_rfl
theorem und5:Tryz.prog.underlying 5 = some (.int .u8) := by kernel_rfl
theorem wf_u16 {n:Int} (h:(Lit.int .u16 n).wf = true):0 <= n /\ n <= 65535 := by simpa [Lit.wf,IntKind.min,IntKind.max,IntKind.signed,IntKind.bits] using h
theorem wf_u8 {n:Int} (h:(Lit.int .u8 n).wf = true):0 <= n /\ n <= 255 := by simpa [Lit.wf,IntKind.min,IntKind.max,IntKind.signed,IntKind.bits] using h
end Go.Proofs.YtfkfohpnpljihaaGreatDoor.Tre
end
section
namespace Go.TM
open Go
structure GItem where
 name:ByteArray
 cls:Int
structure GMv where
 ed:Int
 src:Int
 dst:Int
structure GKn where
 ed:Int
 one:Int
 two:Int
 lev:Int
structure GTab where
 eds:List (List GItem)
 moves:List GMv
 kins:List GKn
def ItemE (h:Cells) (a:Addr) (x:GItem):Prop := h.cell? (a.add 0) = some (.string x.name) /\ h.cell? (a.add 1) = some (.int .i64 x.cls)
theorem ItemE.grow:Grow ItemE := fun _ _ _ _ hl h => ⟨hl _ _ h.1,hl _ _ h.2⟩
def EdE (h:Cells) (a:Addr) (l:List GItem):Prop := ∃ q n c,h.cell? (a.add 0) = some (.slice q n c) /\ Sl ItemE 2 h q n l
theorem EdE.grow:Grow EdE := fun _ _ _ _ hl ⟨q,n,c,h1,h2⟩ => ⟨q,n,c,hl _ _ h1,h2.rd ItemE.grow hl⟩
def MvE (h:Cells) (a:Addr) (x:GMv):Prop := h.cell? (a.add 0) = some (.int .i64 x.ed) /\ h.cell? (a.add 1) = some (.int .i64 x.src) /\ h.cell? (a.add 2) = some (.int .i64 x.dst)
theorem MvE.grow:Grow MvE := fun _ _ _ _ hl h => ⟨hl _ _ h.1,hl _ _ h.2.1,hl _ _ h.2.2⟩
def KnE (h:Cells) (a:Addr) (x:GKn):Prop := h.cell? (a.add 0) = some (.int .i64 x.ed) /\ h.cell? (a.add 1) = some (.int .i64 x.one) /\ h.cell? (a.add 2) = some (.int .i64 x.two) /\ h.cell? (a.add 3) = some (.int .i64 x.lev)
theorem KnE.grow:Grow KnE := fun _ _ _ _ hl h => ⟨hl _ _ h.1,hl _ _ h.2.1,hl _ _ h.2.2.1,hl _ _ h.2.2.2⟩
structure TabC where
 p0:Option Addr
 n0:Nat
 c0:Nat
 p1:Option Addr
 n1:Nat
 c1:Nat
 p2:Option Addr
 n2:Nat
 c2:Nat
def tabV (f:TabC):Value := .agg #[.slice f.p0 f.n0 f.c0,.slice f.p1 f.n1 f.c1,.slice f.p2 f.n2 f.c2]
structure TabR (h:Cells) (f:TabC) (t:GTab):Prop where
 eds:Sl EdE 1 h f.p0 f.n0 t.eds
 moves:Sl MvE 3 h f.p1 f.n1 t.moves
 kins:Sl KnE 4 h f.p2 f.n2 t.kins
theorem TabR.rd {h h':Cells} {f:TabC} {t:GTab} (hl:Rd h h') (r:TabR h f t):TabR h' f t := ⟨r.eds.rd EdE.grow hl,r.moves.rd MvE.grow hl,r.kins.rd KnE.grow hl⟩
theorem TabR.le {h h':Cells} {f:TabC} {t:GTab} (hl:h.le h') (r:TabR h f t):TabR h' f t := r.rd (Rd.of_le hl)
def letterB (c:UInt8):Bool := decide (97 <= c.toNat) && decide (c.toNat <= 122)
def digitB (c:UInt8):Bool := decide (48 <= c.toNat) && decide (c.toNat <= 57)
structure NameOk (s:ByteArray):Prop where
 size:1 <= s.size /\ s.size <= 10
 all:∀ (i:Nat) c,s.data[i]? = some c -> letterB c = true \/ (digitB c = true /\ i ≠ 0)
def GTab.items (t:GTab) (e:Int):List GItem := t.eds.getD e.toNat []
def itemB (t:GTab) (e n:Int):Prop := 0 <= e /\ e < (t.eds.length:Int) /\ 0 <= n /\ n < ((t.items e).length:Int)
structure EdOk (l:List GItem):Prop where
 many:l.length <= 8
 name:∀ x ∈ l,NameOk x.name
 cls:∀ x ∈ l,1 <= x.cls /\ x.cls <= 45
 once:∀ (i j:Nat) x y,i < j -> l[i]? = some x -> l[j]? = some y -> x.name ≠ y.name
structure TabOk (t:GTab):Prop where
 many:1 <= t.eds.length /\ t.eds.length <= 3
 eds:∀ l ∈ t.eds,EdOk l
 moves:t.moves.length <= 16
 move:∀ m ∈ t.moves,itemB t m.ed m.src /\ itemB t (m.ed + 1) m.dst
 moveOnce:∀ (i j:Nat) x y,i < j -> t.moves[i]? = some x -> t.moves[j]? = some y -> ¬ (x.ed = y.ed /\ x.src = y.src /\ x.dst = y.dst)
 kins:t.kins.length <= 10
 kin:∀ k ∈ t.kins,itemB t k.ed k.one /\ itemB t k.ed k.two /\ k.one < k.two /\ 1 <= k.lev /\ k.lev <= 5
 kinOnce:∀ (i j:Nat) x y,i < j -> t.kins[i]? = some x -> t.kins[j]? = some y -> ¬ (x.ed = y.ed /\ x.one = y.one /\ x.two = y.two)
theorem TabOk.items8 {t:GTab} (o:TabOk t) (e:Int):(t.items e).length <= 8 := by
 unfold GTab.items
 rw [List.getD_eq_getElem?_getD]
 cases h:t.eds[e.toNat]? with
 | none => simp
 | some l => exact (o.eds l (List.mem_of_getElem? h)).many
section
variable {H:Type} {enc:TypeId × Value -> H} {P:Program} {W:World} {base:Nat} {sp:Nat -> Bool} {held:Bool} {fuel:Nat} {t:TypeId} {cs:List Value} {x:DataW H × List MemPlace}
structure GoodTy (P:Program) (tI tS tItem tItems tEd tEds tMv tMvs tKn tKns tTab:TypeId):Prop where
 int:P.underlying tI = some (.int .i64)
 int1:P.cellsOf tI = 1
 str:P.underlying tS = some .string
 str1:P.cellsOf tS = 1
 bytes:0 < P.bytesOf tItem /\ 0 < P.bytesOf tEd /\ 0 < P.bytesOf tMv /\ 0 < P.bytesOf tKn
 item:FieldsAre P tItem [(tS,0),(tI,1)]
 item2:P.cellsOf tItem = 2
 items:P.underlying tItems = some (.slice tItem)
 items1:P.cellsOf tItems = 1
 ed:FieldsAre P tEd [(tItems,0)]
 ed1:P.cellsOf tEd = 1
 eds:P.underlying tEds = some (.slice tEd)
 eds1:P.cellsOf tEds = 1
 mv:FieldsAre P tMv [(tI,0),(tI,1),(tI,2)]
 mv3:P.cellsOf tMv = 3
 mvs:P.underlying tMvs = some (.slice tMv)
 mvs1:P.cellsOf tMvs = 1
 kn:FieldsAre P tKn [(tI,0),(tI,1),(tI,2),(tI,3)]
 kn4:P.cellsOf tKn = 4
 kns:P.underlying tKns = some (.slice tKn)
 kns1:P.cellsOf tKns = 1
 tab:FieldsAre P tTab [(tEds,0),(tMvs,1),(tKns,2)]
 tab3:P.cellsOf tTab = 3
variable {tI tS tItem tItems tEd tEds tMv tMvs tKn tKns tTab:TypeId}
theorem items_of_trod (T:GoodTy P tI tS tItem tItems tEd tEds tMv tMvs tKn tKns tTab) (hz:Light P tItems x.1) (h:DataW.trod enc P W base sp held fuel tItems cs = some x) :
  ∃ p n c l,cs = [.slice p n c] /\ Sl ItemE 2 (getW W) p n l := by
 refine sl_of_trod T.items T.item2 T.bytes.1 hz ?_ h
 intro n a cs y hl hc hy hz
 obtain ⟨_,m,hf⟩ := field_of T.item hz hy
 match cs,hl with
 | [c0,c1],_ =>
  obtain ⟨y0,h0,_⟩ := hf 0 tS 0 rfl
  obtain ⟨y1,h1,_⟩ := hf 1 tI 1 rfl
  rw [T.str1] at h0; rw [T.int1] at h1
  obtain ⟨s,e0,_⟩ := DataW.trod_string T.str h0
  obtain ⟨v,e1,_,_⟩ := DataW.trod_int T.int h1
  simp at e0 e1
  subst e0; subst e1
  exact ⟨⟨s,v⟩,hc 0 _ rfl,hc 1 _ rfl⟩
theorem eds_of_trod (T:GoodTy P tI tS tItem tItems tEd tEds tMv tMvs tKn tKns tTab) (hz:Light P tEds x.1) (h:DataW.trod enc P W base sp held fuel tEds cs = some x) :
  ∃ p n c l,cs = [.slice p n c] /\ Sl EdE 1 (getW W) p n l := by
 refine sl_of_trod T.eds T.ed1 T.bytes.2.1 hz ?_ h
 intro n a cs y hl hc hy hz
 obtain ⟨_,m,hf⟩ := field_of T.ed hz hy
 match cs,hl with
 | [c0],_ =>
  obtain ⟨y0,h0,zh0⟩ := hf 0 tItems 0 rfl
  rw [T.items1] at h0
  obtain ⟨p,k,c,l,e0,s⟩ := items_of_trod T zh0 h0
  simp at e0
  subst e0
  exact ⟨l,p,k,c,hc 0 _ rfl,s⟩
theorem mvs_of_trod (T:GoodTy P tI tS tItem tItems tEd tEds tMv tMvs tKn tKns tTab) (hz:Light P tMvs x.1) (h:DataW.trod enc P W base sp held fuel tMvs cs = some x) :
  ∃ p n c l,cs = [.slice p n c] /\ Sl MvE 3 (getW W) p n l := by
 refine sl_of_trod T.mvs T.mv3 T.bytes.2.2.1 hz ?_ h
 intro n a cs y hl hc hy hz
 obtain ⟨_,m,hf⟩ := field_of T.mv hz hy
 match cs,hl with
 | [c0,c1,c2],_ =>
  obtain ⟨y0,h0,_⟩ := hf 0 tI 0 rfl
  obtain ⟨y1,h1,_⟩ := hf 1 tI 1 rfl
  obtain ⟨y2,h2,_⟩ := hf 2 tI 2 rfl
  rw [T.int1] at h0 h1 h2
  obtain ⟨a0,e0,_,_⟩ := DataW.trod_int T.int h0
  obtain ⟨a1,e1,_,_⟩ := DataW.trod_int T.int h1
  obtain ⟨a2,e2,_,_⟩ := DataW.trod_int T.int h2
  simp at e0 e1 e2
  subst e0; subst e1; subst e2
  exact ⟨⟨a0,a1,a2⟩,hc 0 _ rfl,hc 1 _ rfl,hc 2 _ rfl⟩
theorem kns_of_trod (T:GoodTy P tI tS tItem tItems tEd tEds tMv tMvs tKn tKns tTab) (hz:Light P tKns x.1) (h:DataW.trod enc P W base sp held fuel tKns cs = some x) :
  ∃ p n c l,cs = [.slice p n c] /\ Sl KnE 4 (getW W) p n l := by
 refine sl_of_trod T.kns T.kn4 T.bytes.2.2.2 hz ?_ h
 intro n a cs y hl hc hy hz
 obtain ⟨_,m,hf⟩ := field_of T.kn hz hy
 match cs,hl with
 | [c0,c1,c2,c3],_ =>
  obtain ⟨y0,h0,_⟩ := hf 0 tI 0 rfl
  obtain ⟨y1,h1,_⟩ := hf 1 tI 1 rfl
  obtain ⟨y2,h2,_⟩ := hf 2 tI 2 rfl
  obtain ⟨y3,h3,_⟩ := hf 3 tI 3 rfl
  rw [T.int1] at h0 h1 h2 h3
  obtain ⟨a0,e0,_,_⟩ := DataW.trod_int T.int h0
  obtain ⟨a1,e1,_,_⟩ := DataW.trod_int T.int h1
  obtain ⟨a2,e2,_,_⟩ := DataW.trod_int T.int h2
  obtain ⟨a3,e3,_,_⟩ := DataW.trod_int T.int h3
  simp at e0 e1 e2 e3
  subst e0; subst e1; subst e2; subst e3
  exact ⟨⟨a0,a1,a2,a3⟩,hc 0 _ rfl,hc 1 _ rfl,hc 2 _ rfl,hc 3 _ rfl⟩
theorem table_arg (T:GoodTy P tI tS tItem tItems tEd tEds tMv tMvs tKn tKns tTab) {r:Reach} {b0:Nat} {v:Value} {d:DataW H} {ps:List MemPlace}
  (hv:Value.okWide P W r b0 tTab v) (hz:Light P tTab d) (h:DataW.Trod enc P W base sp held tTab v d ps):∃ f y,v = tabV f /\ TabR (getW W) f y := by
 obtain ⟨fs,hu,_⟩ := T.tab
 obtain ⟨cs,rfl,_⟩ := WideShapes.okWide_struct hu hv
 obtain ⟨fuel,hf⟩ := h
 obtain ⟨hl,m,hg⟩ := field_of T.tab hz hf
 rw [T.tab3] at hl
 have hl:cs.toList.length = 3 := hl
 have hcs:∃ a b c,cs.toList = [a,b,c] := by
  match cs.toList,hl with
  | [a,b,c],_ => exact ⟨a,b,c,rfl⟩
 obtain ⟨a,b,c,hcs⟩ := hcs
 have hc:(Value.agg cs).cells.toList = [a,b,c] := hcs
 rw [hc] at hg
 obtain ⟨y0,h0,zh0⟩ := hg 0 tEds 0 rfl
 obtain ⟨y1,h1,zh1⟩ := hg 1 tMvs 1 rfl
 obtain ⟨y2,h2,zh2⟩ := hg 2 tKns 2 rfl
 rw [T.eds1] at h0; rw [T.mvs1] at h1; rw [T.kns1] at h2
 obtain ⟨p0,n0,k0,l0,e0,s0⟩ := eds_of_trod T zh0 h0
 obtain ⟨p1,n1,k1,l1,e1,s1⟩ := mvs_of_trod T zh1 h1
 obtain ⟨p2,n2,k2,l2,e2,s2⟩ := kns_of_trod T zh2 h2
 simp at e0 e1 e2
 subst e0; subst e1; subst e2
 exact ⟨⟨p0,n0,k0,p1,n1,k1,p2,n2,k2⟩,⟨l0,l1,l2⟩,agg_of hc,s0,s1,s2⟩
end
end Go.TM
end
section
namespace Go.Proofs.YtfkfohpnpljihaaGreatDoor
open Go Go.TM Go.Proofs Go.ChangeShapes Go.WideShapes Go.RowKit
set_option maxRecDepth 100000
theorem GT:GoodTy Tryz.prog 3 9 118 92 94 35 176 36 178 37 39 where
 int := by kernel_rfl
 int1 := by kernel_rfl
 str := by kernel_rfl
 str1 := by kernel_rfl
 bytes := ⟨of_decide_eq_true (by kernel_rfl),of_decide_eq_true (by kernel_rfl),of_decide_eq_true (by kernel_rfl),of_decide_eq_true (by kernel_rfl)⟩
 item := ⟨_,Tryz.underlying118,rfl⟩
 item2 := by kernel_rfl
 items := by kernel_rfl
 items1 := by kernel_rfl
 ed := ⟨_,Tryz.underlying94,rfl⟩
 ed1 := by kernel_rfl
 eds := by kernel_rfl
 eds1 := by kernel_rfl
 mv := ⟨_,Tryz.underlying176,rfl⟩
 mv3 := by kernel_rfl
 mvs := by kernel_rfl
 mvs1 := by kernel_rfl
 kn := ⟨_,Tryz.underlying178,rfl⟩
 kn4 := by kernel_rfl
 kns := by kernel_rfl
 kns1 := by kernel_rfl
 tab := ⟨_,Tryz.underlying39,rfl⟩
 tab3 := by kernel_rfl
end Go.Proofs.YtfkfohpnpljihaaGreatDoor
end
