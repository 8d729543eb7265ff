/- Contracts and laws for the proof, joined by a program. No condition. -/
import Derived.Calls
import Derived.Conc.Own
import Derived.Laws.Sem
import Derived.Conc.TraceLaws
import Derived.Conc.Know
import Derived.Conc.Deaf
import Derived.Conc.Beside
import Derived.Conc.CrowdComm
import Derived.Conc.QuitsD
import Derived.ChangeArms
import Derived.LaidMore
import Derived.ProofKit
import Derived.Below
import Derived.SizedLaws
import Derived.Conc.LeavingOf
import Derived.Stop.Joined
import Derived.Carry
import Derived.RowKit
import Derived.ChangeFn
import Derived.LaidLaws
import Derived.SevenTiedAt
import Derived.Test.YtjckkafejlcknaaGreatDoorProg
import Derived.KernelRfl
import Derived.Test.YtjckkafejlcknaaGreatDoorRows
import Derived.Test.YtjckkafejlcknaaGreatDoorCards
import Derived.Test.YtjckkafejlcknaaGreatDoorTie
import Derived.OpenShut
import GoSem.Op.String
import Derived.Laws.Strings
set_option linter.all false
noncomputable section
open Go Go.Conc
namespace Go.TM
section
abbrev Cells:=Nat->Option (Bool×Obj)
def notHole:Value->Bool
 | .tuple a=>!a.isEmpty
 | _=>true
def isHole:Obj->Nat->Prop
 | .pending c _,i=>∀ v,c[i]?=some v->notHole v=false
 | _,_=>False
def subO:Obj->Obj->Prop
 | .pending c e,o'=>∃ c':Array Value,o'=.cells c' e (0,0)/\c'.size=c.size/\∀ (i:Nat) (v:Value),c[i]?=some v->notHole v=true->c'[i]?=some v
 | o,o'=>o'=o
def keepO(o o₁ o₂:Obj):Prop:=(∃ i,isHole o i)->∃ c₁ c₂ e f,o₁=.cells c₁ e f/\o₂=.cells c₂ e f/\c₂.size=c₁.size/\∀ i:Nat,isHole o i->c₂[i]?=c₁[i]?
@[reducible] def unpend (o:Obj) (p:Prop):Prop:=match o with
 | .pending _ _=>False
 | _=>p
theorem unpend.out{o:Obj}{p:Prop}(h:unpend o p):p:=by
 cases o<;>first|exact h|exact h.elim
theorem unpend.mono{o:Obj}{p q:Prop}(h:unpend o p)(hpq:p->q):unpend o q:=by
 cases o<;>first|exact hpq h|exact h.elim
theorem unpend.refl{o:Obj}{p:Prop}(h:unpend o p):subO o o:=by
 cases o<;>first|exact rfl|exact h.elim
theorem hole_end(c:Array Value)(e:TypeId):isHole (.pending c e) c.size:=by
 intro v hv;simp at hv
theorem subO.eq{o o':Obj}(hn:∀ i,¬ isHole o i)(h:subO o o'):o'=o:=by
 cases o with
 | pending c e=>exact absurd (hole_end c e) (hn _)
 | _=>exact h
def Fits(h:Cells)(w:World):Prop:=∀ r m o,h r=some (m,o)->∃ o',w.heap[r]?=some o'/\subO o o'
def Cells.upd(h:Cells)(r:Nat)(x:Bool×Obj):Cells:=fun r'=>if r'=r then some x else h r'
theorem Cells.upd_self(h:Cells)(r:Nat)(x:Bool×Obj):h.upd r x r=some x:=by simp[Cells.upd]
theorem Cells.upd_ne(h:Cells){r r':Nat}(x:Bool×Obj)(hr:r'≠r):h.upd r x r'=h r':=by simp[Cells.upd,hr]
def Cells.le(h h':Cells):Prop:=∀ r x,h r=some x->h' r=some x
theorem Cells.le_refl(h:Cells):h.le h:=fun _ _ h=>h
theorem Cells.le_trans{a b c:Cells}(h1:a.le b)(h2:b.le c):a.le c:=fun r x h=>h2 r x (h1 r x h)
theorem Cells.le_upd{h:Cells}{r:Nat}(x:Bool×Obj)(hr:h r=none):h.le (h.upd r x):=by
 intro r' y hy;have:r'≠r:=by rintro rfl;rw[hr]at hy;cases hy
 rw[Cells.upd_ne _ _ this];exact hy
def Cells.cell?(h:Cells)(a:Addr):Option Value :=
 match h a.block with
 | some (_,.cells c _ _)=>if a.spot.isSome then none else c[a.off]?
 | some (_,.pending c _)=>if a.spot.isSome then none else (c[a.off]?).filter notHole
 | _=>none
theorem Cells.cell?_le{h h':Cells}(hle:h.le h'){a:Addr}{v:Value}(hc:h.cell? a=some v):h'.cell? a=some v:=by
 unfold Cells.cell? at hc ⊢;split at hc
 ·rename_i m c e f he;rw[hle _ _ he];exact hc
 ·rename_i m c e he;rw[hle _ _ he];exact hc
 ·cases hc
def Cells.shape?(h:Cells)(r:Nat):Option (TypeId×Nat) :=
 match h r with
 | some (_,.cells c elem _)=>some (elem,c.size)
 | some (_,.pending c elem)=>some (elem,c.size)
 | _=>none
def Cells.frozen?(h:Cells)(a:Addr):Bool :=
 match h a.block with
 | some (_,.cells _ _ (lo,hi))=>lo<=a.off&&a.off<hi
 | _=>false
def Cells.setCell(h:Cells)(a:Addr)(v:Value):Cells:=fun r =>
 if r=a.block then
  match h r with
  | some (m,.cells c elem fz)=>some (m,.cells (if a.spot.isSome then c else c.setIfInBounds a.off v) elem fz)
  | some (m,.pending c elem)=>some (m,.pending (if a.spot.isSome then c else c.setIfInBounds a.off v) elem)
  | x=>x
 else h r
def Cells.own(h:Cells)(r:Nat):Prop:=∃ o,h r=some (true,o)
def Cells.ownW(h:Cells)(r:Nat):Prop:=∃ o,h r=some (true,o)/\∀ i,¬ isHole o i
def isOne:Value->Bool
 | .agg _ | .tuple _=>false
 | _=>true
def notCells:Obj->Prop
 | .cells ..=>False
 | .pending ..=>False
 | _=>True
def frzO(a:Addr)(n:Nat)(o:Obj):Obj :=
 match o with
 | .cells c elem (lo,hi)=>.cells c elem (if lo==hi then (a.off,a.off+n) else (min lo a.off,max hi (a.off+n)))
 | o=>o
def Cells.freeze(h:Cells)(a:Addr)(n:Nat):Cells:=fun r=>if r=a.block then (h r).map fun x=>(x.1,frzO a n x.2) else h r
def Sem.lwp{α:Type}(P:Program):Sem α->(α->Cells->Prop)->(Halt->Cells->Prop)->Cells->Prop
 | .pure a,Q,_,h=>Q a h
 | .load m a k,Q,E,h=>m=.plain/\∃ v,h.cell? a=some v/\Sem.lwp P (k v) Q E h
 | .store m a v k,Q,E,h=>m=.plain/\isOne v=true/\h.own a.block/\(∃ v₀,h.cell? a=some v₀)/\h.frozen? a=false/\Sem.lwp P k Q E (h.setCell a v)
 | .new o k,Q,E,h=>unpend o (∀ r,h r=none->Sem.lwp P (k r) Q E (h.upd r (true,o)))
 | .shape r k,Q,E,h=>(∃ x,h r=some x)/\Sem.lwp P (k (h.shape? r)) Q E h
 | .freeze a n k,Q,E,h=>n≠0/\h.ownW a.block/\Sem.lwp P k Q E (h.freeze a n)
 | .frozen a k,Q,E,h=>(∃ x,h a.block=some x)/\Sem.lwp P (k (h.frozen? a)) Q E h
 | .getObj r k,Q,E,h=>∃ m o,h r=some (m,o)/\notCells o/\Sem.lwp P (k o) Q E h
 | .setObj r o k,Q,E,h=>(∃ o₀,h r=some (true,o₀)/\notCells o₀)/\unpend o (Sem.lwp P k Q E (h.upd r (true,o)))
 | .choose q k,Q,E,h=>if q.forced then Sem.lwp P (k 0) Q E h else ∀ t,Sem.lwp P (k (q.cut t)) Q E h
 | .sys _ _,_,_,_=>False
 | .program k,Q,E,h=>Sem.lwp P (k P) Q E h
 | .mark m k,Q,E,h=>m=.noRoom/\Sem.lwp P k Q E h
 | .halt e,_,E,h=>E e h
def EvOk(h:Cells)(n n':Nat)(e:Event):Prop :=
 match e.loc with
 | .cell a=>e.sync=false/\((n<=a.block/\a.block<n')\/∃ x,h a.block=some x/\(e.write=true->x.1=true)/\¬ isHole x.2 a.off)
 | .obj r=>(n<=r/\r<n')\/∃ x,h r=some x/\(e.write=true->x.1=true)/\∀ i,¬ isHole x.2 i
 | .mark m=>m=.noRoom
 | _=>False
structure Tr(h:Cells)(w:World)(h':Cells)(w':World):Prop where
 fits:Fits h' w'
 size:w.heap.size<=w'.heap.size
 other:∀ r,r<w.heap.size->¬ h.own r->w'.heap[r]?=w.heap[r]?
 part:∀ r o o₁,h r=some (true,o)->w.heap[r]?=some o₁->∃ o₂,w'.heap[r]?=some o₂/\keepO o o₁ o₂
 new:∀ r x,h' r=some x->(∃ y,h r=some y/\y.1=x.1/\∀ i,isHole y.2 i↔isHole x.2 i)\/(w.heap.size<=r/\x.1=true/\∀ i,¬ isHole x.2 i)
 keep:∀ r y,h r=some y->∃ x,h' r=some x/\x.1=y.1/\∀ i,isHole y.2 i↔isHole x.2 i
 os:w'.os=w.os
 tape:w'.tape=w.tape
 output:w'.output=w.output
theorem keepO.refl{o o₁:Obj}(hs:subO o o₁):keepO o o₁ o₁:=by
 rintro⟨i,hi⟩;cases o with
 | pending c e=>obtain⟨c',rfl,_,_⟩:=hs;exact⟨c',c',e,_,rfl,rfl,rfl,fun _ _=>rfl⟩
 | _=>exact hi.elim
theorem Tr.refl{h:Cells}{w:World}(hf:Fits h w):Tr h w h w:=by
 refine⟨hf,Nat.le_refl _,fun _ _ _=>rfl,fun r o o₁ hr h1=>?_,fun _ x hx=>.inl ⟨x,hx,rfl,fun _=>Iff.rfl⟩,fun _ y hy=>⟨y,hy,rfl,fun _=>Iff.rfl⟩,rfl,rfl,rfl⟩;obtain⟨o',h2,h3⟩:=hf r _ _ hr;rw[h1]at h2;cases h2;exact⟨o₁,h1,.refl h3⟩
theorem Fits.lt{h:Cells}{w:World}(hf:Fits h w){r:Nat}{x:Bool×Obj}(hx:h r=some x):r<w.heap.size:=by
 obtain⟨_,this,_⟩:=hf r x.1 x.2 hx;exact(Array.getElem?_eq_some_iff.1 this).1
theorem Fits.fresh{h:Cells}{w:World}(hf:Fits h w){r:Nat}(hr:w.heap.size<=r):h r=none:=by
 cases hx:h r with
 | none=>rfl
 | some x=>exact absurd (hf.lt hx) (by omega)
theorem Tr.trans{h h₁ h₂:Cells}{w w₁ w₂:World}(a:Tr h w h₁ w₁)(b:Tr h₁ w₁ h₂ w₂):Tr h w h₂ w₂ where
 fits:=b.fits
 size:=Nat.le_trans a.size b.size
 other r hr hno:=by
  rw[b.other r (Nat.lt_of_lt_of_le hr a.size) ?_,a.other r hr hno];rintro⟨o,ho⟩;rcases a.new r _ ho with⟨⟨m,o'⟩,hy,hm,_⟩|⟨hlt,_⟩
  ·simp only at hm;subst hm;exact hno ⟨o',hy⟩
  ·omega
 part r o o₁ hr h1:=by
  obtain⟨o₂,h2,k2⟩:=a.part r o o₁ hr h1;obtain⟨⟨m,x⟩,hx,e,hh⟩:=a.keep r _ hr;simp only at e hh;subst e;obtain⟨o₃,h3,k3⟩:=b.part r x o₂ hx h2;refine⟨o₃,h3,?_⟩;rintro⟨i,hi⟩;obtain⟨c1,c2,e1,f1,rfl,rfl,s1,q1⟩:=k2 ⟨i,hi⟩;obtain⟨c3,c4,e2,f2,e3,rfl,s2,q2⟩:=k3 ⟨i,(hh i).1 hi⟩;cases e3;exact⟨c1,c4,_,_,rfl,rfl,s2.trans s1,fun j hj=>(q2 j ((hh j).1 hj)).trans (q1 j hj)⟩
 new r x hx:=by
  rcases b.new r x hx with⟨y,hy,hyx,hh⟩|⟨hlt,hm⟩
  ·rcases a.new r y hy with⟨z,hz,hzy,hh'⟩|⟨hlt,hm⟩
   ·exact .inl ⟨z,hz,hzy.trans hyx,fun i=>(hh' i).trans (hh i)⟩
   ·exact .inr ⟨hlt,hyx▸hm.1,fun i hi=>hm.2 i ((hh i).2 hi)⟩
  ·exact .inr ⟨Nat.le_trans a.size hlt,hm⟩
 keep r y hy:=by
  obtain⟨x,hx,e,hh⟩:=a.keep r y hy;obtain⟨z,hz,e',hh'⟩:=b.keep r x hx;exact⟨z,hz,e'.trans e,fun i=>(hh i).trans (hh' i)⟩
 os:=b.os.trans a.os
 tape:=b.tape.trans a.tape
 output:=b.output.trans a.output
theorem EvOk.up{h:Cells}{n m m':Nat}(hm:m<=m'){e:Event}(he:EvOk h n m e):EvOk h n m' e:=by
 unfold EvOk at he ⊢;split at he
 ·exact⟨he.1,he.2.imp_left fun h=>⟨h.1,Nat.lt_of_lt_of_le h.2 hm⟩⟩
 ·exact he.imp_left fun h=>⟨h.1,Nat.lt_of_lt_of_le h.2 hm⟩
 ·exact he
 ·exact he
theorem EvOk.back{h h₁:Cells}{w w₁:World}{n':Nat}(a:Tr h w h₁ w₁)(hn:w₁.heap.size<=n'){e:Event}(he:EvOk h₁ w₁.heap.size n' e):EvOk h w.heap.size n' e:=by
 have key:∀ r (p q:Obj->Prop),(∀ o o',(∀ i,isHole o i->isHole o' i)->p o'->q o)->((w₁.heap.size<=r/\r<n')\/∃ x,h₁ r=some x/\(e.write=true->x.1=true)/\p x.2)->((w.heap.size<=r/\r<n')\/∃ x,h r=some x/\(e.write=true->x.1=true)/\q x.2):=by
  rintro r p q hpq (⟨hr,hr'⟩|⟨x,hx,hw,hp⟩)
  ·exact .inl ⟨Nat.le_trans a.size hr,hr'⟩
  ·rcases a.new r x hx with⟨y,hy,e',hh⟩|⟨hlt,_⟩
   ·exact .inr ⟨y,hy,fun h=>e'▸hw h,hpq _ _ (fun i=>(hh i).1) hp⟩
   ·exact .inl ⟨hlt,Nat.lt_of_lt_of_le (Fits.lt a.fits hx) hn⟩
 unfold EvOk at he ⊢;split at he
 ·rename_i a _;exact⟨he.1,key _ (fun o=>¬ isHole o a.off) (fun o=>¬ isHole o a.off) (fun o o' hh hp hi=>hp (hh _ hi)) he.2⟩
 ·exact key _ (fun o=>∀ i,¬ isHole o i) (fun o=>∀ i,¬ isHole o i) (fun o o' hh hp i hi=>hp i (hh _ hi)) he
 ·exact he
 ·exact he
def LEnds{α:Type}(P:Program)(s:Sem α)(Q:α->Cells->Prop)(E:Halt->Cells->Prop)(h:Cells)(w:World)(es:Array Event):Prop :=
 ∃ (w':World) (h':Cells) (es':Array Event),Tr h w h' w'/\(∀ e∈es',EvOk h w.heap.size w'.heap.size e) /\
  ((∃ a,s.runT P w es=(.ok a w',es++es')/\Q a h')\/(∃ e,s.runT P w es=(.halt e w',es++es')/\E e h'))
theorem cell?_fits{h:Cells}{w:World}(hf:Fits h w){a:Addr}{v:Value}(hc:h.cell? a=some v):w.cell? a=some v:=by
 unfold Cells.cell? at hc;unfold World.cell?;split at hc
 ·rename_i m c e f he;obtain⟨o',ho,hs⟩:=hf _ _ _ he;cases hs;rw[ho];exact hc
 ·rename_i m c e he;obtain⟨o',ho,c',rfl,_,hcc⟩:=hf _ _ _ he;rw[ho];split at hc
  ·cases hc
  ·rename_i hs;obtain⟨h1,h2⟩:=Option.filter_eq_some_iff.1 hc;simp only[hs,Bool.false_eq_true,if_false];exact hcc _ _ h1 h2
 ·cases hc
theorem cell?_block{h:Cells}{a:Addr}{v:Value}(hc:h.cell? a=some v):∃ x,h a.block=some x/\¬ isHole x.2 a.off:=by
 unfold Cells.cell? at hc;split at hc
 ·rename_i he;exact⟨_,he,id⟩
 ·rename_i m c e he;refine⟨_,he,fun hh=>?_⟩;split at hc
  ·cases hc
  ·obtain⟨h1,h2⟩:=Option.filter_eq_some_iff.1 hc;rw[hh v h1]at h2;cases h2
 ·cases hc
theorem frozen?_fits{h:Cells}{w:World}(hf:Fits h w){a:Addr}{x:Bool×Obj}(hx:h a.block=some x):w.frozen? a=h.frozen? a:=by
 unfold World.frozen? Cells.frozen?;obtain⟨m,o⟩:=x;obtain⟨o',ho,hs⟩:=hf _ _ _ hx;rw[ho,hx];cases o with
 | pending c e=>obtain⟨c',rfl,_⟩:=hs;simp
 | _=>cases hs;rfl
theorem shape?_fits{h:Cells}{w:World}(hf:Fits h w){r:Nat}{x:Bool×Obj}(hx:h r=some x):w.shape? r=h.shape? r:=by
 unfold World.shape? Cells.shape?;obtain⟨m,o⟩:=x;obtain⟨o',ho,hs⟩:=hf _ _ _ hx;rw[ho,hx];cases o with
 | pending c e=>obtain⟨c',rfl,e',_⟩:=hs;simp only[e']
 | _=>cases hs;rfl
theorem noHole{o:Obj}(ho:subO o o)(i:Nat):¬ isHole o i:=by
 cases o with
 | pending c e=>obtain⟨_,h,_⟩:=ho;cases h
 | _=>exact id
theorem isOne_notHole{v:Value}(h:isOne v=true):notHole v=true:=by
 cases v<;>first|rfl|(simp[isOne]at h)
theorem Fits.keep{h:Cells}{w:World}(hf:Fits h w){r:Nat}{m:Bool}{o o₁:Obj}(hr:h r=some (m,o))(h1:w.heap[r]?=some o₁):keepO o o₁ o₁:=by
 obtain⟨o',h2,h3⟩:=hf r _ _ hr;rw[h1]at h2;cases h2;exact .refl h3
theorem tr_new{h:Cells}{w:World}(hf:Fits h w){o:Obj}(ho:subO o o):Tr h w (h.upd w.heap.size (true,o)) { w with heap:=w.heap.push o } where
 fits r m o' hr:=by
  show ∃ x,(w.heap.push o)[r]?=some x/\_;by_cases e:r=w.heap.size
  ·subst e;rw[Cells.upd_self]at hr;cases hr;exact⟨o,by simp,ho⟩
  ·rw[Cells.upd_ne _ _ e]at hr;obtain⟨x,h1,h2⟩:=hf _ _ _ hr;refine⟨x,?_,h2⟩;rw[Array.getElem?_push];simp[e];exact h1
 size:=by simp
 other r hr _:=by
  show (w.heap.push o)[r]?=w.heap[r]?;rw[Array.getElem?_push];simp[Nat.ne_of_lt hr]
 part r o' o₁ hr h1:=by
  refine⟨o₁,?_,hf.keep hr h1⟩;show (w.heap.push o)[r]?=some o₁;rw[Array.getElem?_push];simp[Nat.ne_of_lt (hf.lt hr)];exact h1
 new r x hx:=by
  by_cases e:r=w.heap.size
  ·subst e;rw[Cells.upd_self]at hx;cases hx;exact .inr ⟨Nat.le_refl _,rfl,noHole ho⟩
  ·rw[Cells.upd_ne _ _ e]at hx;exact .inl ⟨x,hx,rfl,fun _=>Iff.rfl⟩
 keep r y hy:=by
  have hlt:=hf.lt hy;exact⟨y,by rw[Cells.upd_ne _ _ (Nat.ne_of_lt hlt)];exact hy,rfl,fun _=>Iff.rfl⟩
 os:=rfl
 tape:=rfl
 output:=rfl
theorem setCell_ne{h:Cells}{a:Addr}{v:Value}{r:Nat}(hr:r≠a.block):h.setCell a v r=h r:=by unfold Cells.setCell;rw[if_neg hr]
theorem hole_set{c:Array Value}{e:TypeId}{i:Nat}{v v₀:Value}(h0:c[i]?=some v₀)(hv:notHole v=true)(hv0:notHole v₀=true)(j:Nat):isHole (.pending c e) j↔isHole (.pending (c.setIfInBounds i v) e) j:=by
 have hlt:i<c.size:=(Array.getElem?_eq_some_iff.1 h0).1;show (∀ _,_)↔(∀ _,_);by_cases ej:i=j
 ·subst ej;constructor
  ·intro hh;have:=hh v₀ h0;rw[hv0]at this;cases this
  ·intro hh;have:=hh v (by rw[Array.getElem?_setIfInBounds_self];simp[hlt]);rw[hv]at this;cases this
 ·rw[Array.getElem?_setIfInBounds_ne ej]
theorem cell?_inv{h:Cells}{a:Addr}{v:Value}(hc:h.cell? a=some v):a.spot.isSome=false/\∃ m c e,c[a.off]?=some v/\((∃ f,h a.block=some (m,.cells c e f))\/(h a.block=some (m,.pending c e)/\notHole v=true)):=by
 unfold Cells.cell? at hc;split at hc
 ·rename_i m c e f he;split at hc
  ·cases hc
  ·rename_i hs;exact⟨by simpa using hs,m,c,e,hc,.inl ⟨f,he⟩⟩
 ·rename_i m c e he;split at hc
  ·cases hc
  ·rename_i hs;obtain⟨h1,h2⟩:=Option.filter_eq_some_iff.1 hc;exact⟨by simpa using hs,m,c,e,h1,.inr ⟨he,h2⟩⟩
 ·cases hc
theorem tr_set{h:Cells}{w:World}(hf:Fits h w){a:Addr}{v v₀:Value}(hv:isOne v=true)(hc:h.cell? a=some v₀)(hown:h.own a.block):Tr h w (h.setCell a v) (w.setCell a v):=by
 obtain⟨hs,m,c,e,h1,hcase⟩:=cell?_inv hc;obtain⟨o₀,ho⟩:=hown;have hv':=isOne_notHole hv;have hlt:a.off<c.size:=(Array.getElem?_eq_some_iff.1 h1).1;have hw:∀ r,r≠a.block->(w.setCell a v).heap[r]?=w.heap[r]?:=by
  intro r hr;show (w.heap.modify a.block _)[r]?=w.heap[r]?;rw[Array.getElem?_modify,if_neg (Ne.symm hr)]
 have hw':∀ c' f,w.heap[a.block]?=some (.cells c' e f)->(w.setCell a v).heap[a.block]?=some (.cells (c'.setIfInBounds a.off v) e f):=by
  intro c' f h3;show (w.heap.modify a.block _)[a.block]?=_;rw[Array.getElem?_modify,if_pos rfl,h3];simp only[Option.map_some,hs,Bool.false_eq_true,if_false]
 -- what the block is, and becomes
 obtain⟨o,x,ho',hx,hfit,hkeep,hh⟩ : ∃ o x,h a.block=some (true,o)/\h.setCell a v a.block=some (true,x)/\(∃ o',(w.setCell a v).heap[a.block]?=some o'/\subO x o') /\
   (∀ o₁,w.heap[a.block]?=some o₁->∃ o₂,(w.setCell a v).heap[a.block]?=some o₂/\keepO o o₁ o₂)/\∀ i,isHole o i↔isHole x i:=by
  rcases hcase with⟨f,he⟩|⟨he,hn⟩
  ·rw[ho]at he;cases he;obtain⟨o',h3,h4⟩:=hf _ _ _ ho;cases h4;refine⟨_,.cells (c.setIfInBounds a.off v) e f,ho,?_,⟨_,hw' c f h3,rfl⟩,fun o₁ h5=>?_,fun _=>Iff.rfl⟩
   ·unfold Cells.setCell;rw[if_pos rfl,ho];simp only[hs,Bool.false_eq_true,if_false]
   ·rw[h3]at h5;cases h5;exact⟨_,hw' c f h3,fun ⟨_,hi⟩=>hi.elim⟩
  ·rw[ho]at he;cases he;obtain⟨o',h3,c',rfl,hsz,hcc⟩:=hf _ _ _ ho;refine⟨_,.pending (c.setIfInBounds a.off v) e,ho,?_,⟨_,hw' c' _ h3,_,rfl,by simp[hsz],fun i u hu hnu=>?_⟩,fun o₁ h5=>?_,fun i=>hole_set h1 hv' hn i⟩
   ·unfold Cells.setCell;rw[if_pos rfl,ho];simp only[hs,Bool.false_eq_true,if_false]
   ·by_cases ei:a.off=i
    ·subst ei;rw[Array.getElem?_setIfInBounds_self]at hu ⊢;rw[hsz];exact hu
    ·rw[Array.getElem?_setIfInBounds_ne ei]at hu ⊢;exact hcc i u hu hnu
   ·rw[h3]at h5;cases h5;refine⟨_,hw' c' _ h3,fun _=>⟨c',_,e,_,rfl,rfl,by simp,fun i hi=>?_⟩⟩;have:a.off≠i:=by rintro rfl;have:=hi _ h1;rw[hn]at this;cases this
    rw[Array.getElem?_setIfInBounds_ne this]
 refine⟨?_,by simp[World.setCell],?_,?_,?_,?_,rfl,rfl,rfl⟩
 ·intro r m o hr;by_cases er:r=a.block
  ·subst er;rw[hx]at hr;cases hr;exact hfit
  ·rw[setCell_ne er]at hr;rw[hw r er];exact hf _ _ _ hr
 ·intro r hr hno;have:r≠a.block:=by rintro rfl;exact hno ⟨_,ho⟩
  exact hw r this
 ·intro r o₂ o₁ hr h3;by_cases er:r=a.block
  ·subst er;rw[ho']at hr;cases hr;exact hkeep _ h3
  ·exact⟨o₁,by rw[hw r er];exact h3,hf.keep hr h3⟩
 ·intro r y hy;by_cases er:r=a.block
  ·subst er;rw[hx]at hy;cases hy;exact .inl ⟨_,ho',rfl,hh⟩
  ·rw[setCell_ne er]at hy;exact .inl ⟨y,hy,rfl,fun _=>Iff.rfl⟩
 ·intro r y hy;by_cases er:r=a.block
  ·subst er;rw[ho']at hy;cases hy;exact⟨_,hx,rfl,hh⟩
  ·exact⟨y,by rw[setCell_ne er];exact hy,rfl,fun _=>Iff.rfl⟩
theorem hole_frz{a:Addr}{n:Nat}{o:Obj}(i:Nat):isHole o i↔isHole (frzO a n o) i:=by
 cases o<;>exact Iff.rfl
theorem tr_freeze{h:Cells}{w:World}(hf:Fits h w){a:Addr}{n:Nat}(hn:n≠0)(hown:h.ownW a.block):Tr h w (h.freeze a n) (w.freeze a n):=by
 obtain⟨o,ho,hnh⟩:=hown;have e0:w.freeze a n={ w with heap:=w.heap.modify a.block (frzO a n) }:=by
  unfold World.freeze;rw[if_neg hn];congr 1
 have hself:h.freeze a n a.block=some (true,frzO a n o):=by unfold Cells.freeze;rw[if_pos rfl,ho];rfl
 have hne:∀ r,r≠a.block->h.freeze a n r=h r:=fun r hr=>by unfold Cells.freeze;rw[if_neg hr]
 have hw:∀ r,r≠a.block->(w.freeze a n).heap[r]?=w.heap[r]?:=by
  intro r hr;rw[e0];show (w.heap.modify a.block _)[r]?=w.heap[r]?;rw[Array.getElem?_modify,if_neg (Ne.symm hr)]
 have hw':(w.freeze a n).heap[a.block]?=some (frzO a n o):=by
  obtain⟨o',h3,h4⟩:=hf _ _ _ ho;cases subO.eq hnh h4;rw[e0];show (w.heap.modify a.block _)[a.block]?=_;rw[Array.getElem?_modify,if_pos rfl,h3];rfl
 refine⟨?_,by rw[e0];simp,?_,?_,?_,?_,by rw[e0],by rw[e0],by rw[e0]⟩
 ·intro r m o' hr;by_cases er:r=a.block
  ·subst er;rw[hself]at hr;cases hr;exact⟨_,hw',by cases o<;>first|exact rfl|exact absurd (hole_end _ _) (hnh _)⟩
  ·rw[hne r er]at hr;rw[hw r er];exact hf _ _ _ hr
 ·intro r hr hno;exact hw r (by rintro rfl;exact hno ⟨_,ho⟩)
 ·intro r o' o₁ hr h3;by_cases er:r=a.block
  ·subst er;rw[ho]at hr;cases hr;exact⟨_,hw',fun ⟨i,hi⟩=>absurd hi (hnh i)⟩
  ·exact⟨o₁,by rw[hw r er];exact h3,hf.keep hr h3⟩
 ·intro r x hx;by_cases er:r=a.block
  ·subst er;rw[hself]at hx;cases hx;exact .inl ⟨_,ho,rfl,fun i=>hole_frz i⟩
  ·rw[hne r er]at hx;exact .inl ⟨x,hx,rfl,fun _=>Iff.rfl⟩
 ·intro r y hy;by_cases er:r=a.block
  ·subst er;rw[ho]at hy;cases hy;exact⟨_,hself,rfl,fun i=>hole_frz i⟩
  ·exact⟨y,by rw[hne r er];exact hy,rfl,fun _=>Iff.rfl⟩
theorem notCells_hole{o:Obj}(h:notCells o)(i:Nat):¬ isHole o i:=by
 cases o<;>first|exact id|exact h.elim
theorem tr_obj{h:Cells}{w:World}(hf:Fits h w){r:Nat}{o₀ o:Obj}(ho:subO o o)(h0:h r=some (true,o₀))(hn:notCells o₀):Tr h w (h.upd r (true,o)) { w with heap:=w.heap.setIfInBounds r o } where
 fits r' m o' hr:=by
  show ∃ x,(w.heap.setIfInBounds r o)[r']?=some x/\_;have hlt:=hf.lt h0;by_cases e:r'=r
  ·subst e;rw[Cells.upd_self]at hr;cases hr;exact⟨o,by simp[hlt],ho⟩
  ·rw[Cells.upd_ne _ _ e]at hr;rw[Array.getElem?_setIfInBounds_ne (Ne.symm e)];exact hf _ _ _ hr
 size:=by simp
 other r' hr hno:=by
  show (w.heap.setIfInBounds r o)[r']?=w.heap[r']?;have:r≠r':=by rintro rfl;exact hno ⟨_,h0⟩
  rw[Array.getElem?_setIfInBounds_ne this]
 part r' o' o₁ hr h1:=by
  show ∃ x,(w.heap.setIfInBounds r o)[r']?=some x/\_;by_cases e:r'=r
  ·subst e;rw[h0]at hr;cases hr;exact⟨o,by simp[hf.lt h0],fun ⟨i,hi⟩=>absurd hi (notCells_hole hn i)⟩
  ·exact⟨o₁,by rw[Array.getElem?_setIfInBounds_ne (Ne.symm e)];exact h1,hf.keep hr h1⟩
 new r' x hx:=by
  by_cases e:r'=r
  ·subst e;rw[Cells.upd_self]at hx;cases hx;exact .inl ⟨_,h0,rfl,fun i=>⟨fun hi=>absurd hi (notCells_hole hn i),fun hi=>absurd hi (noHole ho i)⟩⟩
  ·rw[Cells.upd_ne _ _ e]at hx;exact .inl ⟨x,hx,rfl,fun _=>Iff.rfl⟩
 keep r' y hy:=by
  by_cases e:r'=r
  ·subst e;rw[h0]at hy;cases hy;exact⟨_,Cells.upd_self _ _ _,rfl,fun i=>⟨fun hi=>absurd hi (notCells_hole hn i),fun hi=>absurd hi (noHole ho i)⟩⟩
  ·exact⟨y,by rw[Cells.upd_ne _ _ e];exact hy,rfl,fun _=>Iff.rfl⟩
 os:=rfl
 tape:=rfl
 output:=rfl
theorem LEnds.cont{α:Type}{P:Program}{s s₁:Sem α}{Q:α->Cells->Prop}{E:Halt->Cells->Prop}{h h₁:Cells}{w w₁:World}{es:Array Event}{ev:Array Event}
 (t:Tr h w h₁ w₁)(hev:∀ e∈ev,EvOk h w.heap.size w₁.heap.size e)(hrun:s.runT P w es=s₁.runT P w₁ (es++ev))(k:LEnds P s₁ Q E h₁ w₁ (es++ev)):LEnds P s Q E h w es:=by
 obtain⟨w',h',es',t',hes,hq⟩:=k;refine⟨w',h',ev++es',t.trans t',?_,?_⟩
 ·intro e he;rcases Array.mem_append.1 he with he|he
  ·exact(hev e he).up t'.size
  ·exact EvOk.back t t'.size (hes e he)
 ·rw[hrun,<- Array.append_assoc];exact hq
theorem lwp_sound{α:Type}(P:Program)(s:Sem α):∀ (Q:α->Cells->Prop) (E:Halt->Cells->Prop) (h:Cells) (w:World) (es:Array Event),
  Fits h w->Sem.lwp P s Q E h->LEnds P s Q E h w es:=by
 induction s with
 | pure a=>intro Q E h w es hf hs;exact⟨w,h,#[],Tr.refl hf,by simp,.inl ⟨a,by simp[Sem.runT],hs⟩⟩
 | load m a k ih =>
  intro Q E h w es hf hs;obtain⟨rfl,v,hc,hs⟩:=hs;refine LEnds.cont (ev:=#[⟨.cell a,false,false⟩]) (Tr.refl hf) ?_ ?_ (ih v Q E h w _ hf hs)
  ·intro e he;simp only[List.mem_toArray,List.mem_cons,List.not_mem_nil,or_false]at he;subst he;obtain⟨x,hx,hh⟩:=cell?_block hc;exact⟨rfl,.inr ⟨x,hx,by simp,hh⟩⟩
  ·simp only[Sem.runT,cell?_fits hf hc];rfl
 | store m a v k ih =>
  intro Q E h w es hf hs;obtain⟨rfl,hv,hown,⟨v₀,hc⟩,hfz,hs⟩:=hs;refine LEnds.cont (ev:=#[⟨.cell a,true,false⟩]) (tr_set hf hv hc hown) ?_ ?_ (ih Q E _ _ _ (tr_set hf hv hc hown).fits hs)
  ·intro e he;simp only[List.mem_toArray,List.mem_cons,List.not_mem_nil,or_false]at he;subst he;obtain⟨o,ho⟩:=hown;obtain⟨x,hx,hh⟩:=cell?_block hc;rw[ho]at hx;cases hx;exact⟨rfl,.inr ⟨_,ho,by simp,hh⟩⟩
  ·obtain⟨o,ho⟩:=hown;have hfz':w.frozen? a=false:=by rw[frozen?_fits hf ho];exact hfz
   cases v<;>simp only[isOne,Bool.false_eq_true]at hv<;>simp only[Sem.runT,cell?_fits hf hc,hfz']<;>rfl
 | new o k ih =>
  intro Q E h w es hf hs;have t:=tr_new hf hs.refl;have:=ih w.heap.size Q E _ _ (es++#[]) t.fits (hs.out _ (hf.fresh (Nat.le_refl _)));exact LEnds.cont (ev:=#[]) t (by simp) (by simp[Sem.runT]) this
 | shape r k ih =>
  intro Q E h w es hf hs;obtain⟨⟨x,hx⟩,hs⟩:=hs;refine LEnds.cont (ev:=#[]) (Tr.refl hf) (by simp) ?_ (ih _ Q E h w _ hf hs);simp[Sem.runT,shape?_fits hf hx]
 | freeze a n k ih =>
  intro Q E h w es hf hs;obtain⟨hn,hown,hs⟩:=hs;have t:=tr_freeze hf hn hown;exact LEnds.cont (ev:=#[]) t (by simp) (by simp[Sem.runT]) (ih Q E _ _ _ t.fits hs)
 | frozen a k ih =>
  intro Q E h w es hf hs;obtain⟨⟨x,hx⟩,hs⟩:=hs;refine LEnds.cont (ev:=#[]) (Tr.refl hf) (by simp) ?_ (ih _ Q E h w _ hf hs);simp[Sem.runT,frozen?_fits hf hx]
 | getObj r k ih =>
  intro Q E h w es hf hs;obtain⟨m,o,ho,hn,hs⟩:=hs;refine LEnds.cont (ev:=#[⟨.obj r,false,o.isChan⟩]) (Tr.refl hf) ?_ ?_ (ih _ Q E h w _ hf hs)
  ·intro e he;simp only[List.mem_toArray,List.mem_cons,List.not_mem_nil,or_false]at he;subst he;exact .inr ⟨_,ho,by simp,notCells_hole hn⟩
  ·obtain⟨o',hw,hs'⟩:=hf _ _ _ ho;cases subO.eq (notCells_hole hn) hs';cases o<;>first|exact hn.elim|(simp only[Sem.runT,hw];rfl)
 | setObj r o k ih =>
  intro Q E h w es hf hs;obtain⟨⟨o₀,ho,hn⟩,hs⟩:=hs;refine LEnds.cont (ev:=#[⟨.obj r,true,o.isChan⟩]) (tr_obj hf hs.refl ho hn) ?_ ?_ (ih Q E _ _ _ (tr_obj hf hs.refl ho hn).fits hs.out)
  ·intro e he;simp only[List.mem_toArray,List.mem_cons,List.not_mem_nil,or_false]at he;subst he;exact .inr ⟨_,ho,by simp,notCells_hole hn⟩
  ·obtain⟨o',hw,hs'⟩:=hf _ _ _ ho;cases subO.eq (notCells_hole hn) hs';cases o₀<;>first|exact hn.elim|(simp only[Sem.runT,hw];rfl)
 | choose q k ih =>
  intro Q E h w es hf hs;unfold Sem.lwp at hs;by_cases hq:q.forced=true
  ·rw[if_pos hq]at hs;refine LEnds.cont (ev:=#[]) (Tr.refl hf) (by simp) ?_ (ih 0 Q E h w _ hf hs);simp[Sem.runT,hq]
  ·rw[if_neg hq]at hs;have t:Tr h w h { w with drawn:=w.drawn+1 }:=let t:=Tr.refl hf;⟨t.fits,t.size,t.other,t.part,t.new,t.keep,rfl,rfl,rfl⟩;refine LEnds.cont (ev:=#[]) t (by simp) ?_ (ih _ Q E h _ _ t.fits (hs (w.tape w.drawn q)));simp[Sem.runT,hq]
 | sys c k ih=>intro Q E h w es hf hs;exact hs.elim
 | program k ih =>
  intro Q E h w es hf hs;refine LEnds.cont (ev:=#[]) (Tr.refl hf) (by simp) ?_ (ih P Q E h w _ hf hs);simp[Sem.runT]
 | mark m k ih =>
  intro Q E h w es hf hs;obtain⟨rfl,hs⟩:=hs;refine LEnds.cont (ev:=#[⟨.mark .noRoom,false,true⟩]) (Tr.refl hf) ?_ (by simp only[Sem.runT];rfl) (ih Q E h w _ hf hs);intro e he;simp only[List.mem_toArray,List.mem_cons,List.not_mem_nil,or_false]at he;subst he;rfl
 | halt e=>intro Q E h w es hf hs;exact⟨w,h,#[],Tr.refl hf,by simp,.inr ⟨e,by simp[Sem.runT],hs⟩⟩
theorem Sem.lwp_mono{α:Type}{P:Program}(s:Sem α):∀ {Q Q':α->Cells->Prop} {E E':Halt->Cells->Prop} {h:Cells},
  Sem.lwp P s Q E h->(∀ a h,Q a h->Q' a h)->(∀ e h,E e h->E' e h)->Sem.lwp P s Q' E' h:=by
 induction s with
 | pure a=>intro Q Q' E E' h hs hq he;exact hq _ _ hs
 | load m a k ih=>intro Q Q' E E' h hs hq he;obtain⟨e,v,hc,hs⟩:=hs;exact⟨e,v,hc,ih v hs hq he⟩
 | store m a v k ih=>intro Q Q' E E' h hs hq he;obtain⟨e,h1,h2,h3,h4,hs⟩:=hs;exact⟨e,h1,h2,h3,h4,ih hs hq he⟩
 | new o k ih=>intro Q Q' E E' h hs hq he;exact unpend.mono hs fun hs r hr=>ih r (hs r hr) hq he
 | shape r k ih=>intro Q Q' E E' h hs hq he;exact⟨hs.1,ih _ hs.2 hq he⟩
 | freeze a n k ih=>intro Q Q' E E' h hs hq he;exact⟨hs.1,hs.2.1,ih hs.2.2 hq he⟩
 | frozen a k ih=>intro Q Q' E E' h hs hq he;exact⟨hs.1,ih _ hs.2 hq he⟩
 | getObj r k ih=>intro Q Q' E E' h hs hq he;obtain⟨m,o,h1,h2,hs⟩:=hs;exact⟨m,o,h1,h2,ih _ hs hq he⟩
 | setObj r o k ih=>intro Q Q' E E' h hs hq he;exact⟨hs.1,hs.2.mono fun hs=>ih hs hq he⟩
 | choose q k ih =>
  intro Q Q' E E' h hs hq he;unfold Sem.lwp at hs ⊢;split
  ·rename_i hf;rw[if_pos hf]at hs;exact ih _ hs hq he
  ·rename_i hf;rw[if_neg hf]at hs;exact fun t=>ih _ (hs t) hq he
 | sys c k ih=>intro Q Q' E E' h hs;exact hs.elim
 | program k ih=>intro Q Q' E E' h hs hq he;exact ih _ hs hq he
 | mark m k ih=>intro Q Q' E E' h hs hq he;exact⟨hs.1,ih hs.2 hq he⟩
 | halt e=>intro Q Q' E E' h hs hq he;exact he _ _ hs
theorem Sem.lwp_bind{α β:Type}{P:Program}(s:Sem α)(f:α->Sem β):∀ {Q:β->Cells->Prop} {E:Halt->Cells->Prop} {h:Cells},
  Sem.lwp P s (fun a h=>Sem.lwp P (f a) Q E h) E h->Sem.lwp P (s.bind f) Q E h:=by
 induction s with
 | pure a=>intro Q E h hs;exact hs
 | load m a k ih=>intro Q E h hs;obtain⟨e,v,hc,hs⟩:=hs;exact⟨e,v,hc,ih v hs⟩
 | store m a v k ih=>intro Q E h hs;obtain⟨e,h1,h2,h3,h4,hs⟩:=hs;exact⟨e,h1,h2,h3,h4,ih hs⟩
 | new o k ih=>intro Q E h hs;exact unpend.mono hs fun hs r hr=>ih r (hs r hr)
 | shape r k ih=>intro Q E h hs;exact⟨hs.1,ih _ hs.2⟩
 | freeze a n k ih=>intro Q E h hs;exact⟨hs.1,hs.2.1,ih hs.2.2⟩
 | frozen a k ih=>intro Q E h hs;exact⟨hs.1,ih _ hs.2⟩
 | getObj r k ih=>intro Q E h hs;obtain⟨m,o,h1,h2,hs⟩:=hs;exact⟨m,o,h1,h2,ih _ hs⟩
 | setObj r o k ih=>intro Q E h hs;exact⟨hs.1,hs.2.mono fun hs=>ih hs⟩
 | choose q k ih =>
  intro Q E h hs;show Sem.lwp P (.choose q fun n=>(k n).bind f) Q E h;unfold Sem.lwp at hs ⊢;split
  ·rename_i hf;rw[if_pos hf]at hs;exact ih _ hs
  ·rename_i hf;rw[if_neg hf]at hs;exact fun t=>ih _ (hs t)
 | sys c k ih=>intro Q E h hs;exact hs.elim
 | program k ih=>intro Q E h hs;exact ih _ hs
 | mark m k ih=>intro Q E h hs;exact⟨hs.1,ih hs.2⟩
 | halt e=>intro Q E h hs;exact hs
end
section
abbrev Script:=List (Nat×(Value->Cells->Prop))
structure LH where
 get:Cells
 chans:List Nat
 pend:List Script
 todo:Script
def Disj(h k:Cells):Prop:=∀ r,h r=none\/k r=none
def Cells.add(h k:Cells):Cells:=fun r=>match h r with|some x=>some x|none=>k r
def LH.add(h:LH)(k:Cells):LH:={ h with get:=h.get.add k }
def LH.le(h h':LH):Prop:=h.get.le h'.get/\h'.chans=h.chans/\h'.pend=h.pend/\h'.todo=h.todo
theorem LH.le_refl(h:LH):h.le h:=⟨Cells.le_refl _,rfl,rfl,rfl⟩
theorem LH.le_trans{a b c:LH}(h1:a.le b)(h2:b.le c):a.le c:=⟨Cells.le_trans h1.1 h2.1,h2.2.1.trans h1.2.1,h2.2.2.1.trans h1.2.2.1,h2.2.2.2.trans h1.2.2.2⟩
theorem Cells.add_left{h k:Cells}{r:Nat}{x:Bool×Obj}(hr:h r=some x):h.add k r=some x:=by simp[Cells.add,hr]
theorem Cells.add_right{h k:Cells}{r:Nat}(hr:h r=none):h.add k r=k r:=by simp[Cells.add,hr]
theorem Cells.le_add(h k:Cells):h.le (h.add k):=fun _ _ hr=>Cells.add_left hr
theorem Disj.symm{h k:Cells}(d:Disj h k):Disj k h:=fun r=>(d r).symm
theorem Cells.add_right'{h k:Cells}(d:Disj h k){r:Nat}{x:Bool×Obj}(hr:k r=some x):h.add k r=some x:=by
 rcases d r with h'|h'
 ·rw[Cells.add_right h'];exact hr
 ·rw[hr]at h';cases h'
theorem Cells.add_some{h k:Cells}{r:Nat}{x:Bool×Obj}(hx:h.add k r=some x):h r=some x\/(h r=none/\k r=some x):=by
 unfold Cells.add at hx;split at hx
 ·rename_i y hy;cases hx;exact .inl hy
 ·rename_i hn;exact .inr ⟨hn,hx⟩
theorem Fits.left{h k:Cells}{w:World}(hf:Fits (h.add k) w):Fits h w:=fun r m o hr=>hf r m o (Cells.add_left hr)
theorem Fits.right{h k:Cells}{w:World}(d:Disj h k)(hf:Fits (h.add k) w):Fits k w:=fun r m o hr=>hf r m o (Cells.add_right' d hr)
theorem Tr.frame{h h' k:Cells}{w w':World}(t:Tr h w h' w')(d:Disj h k)(hf:Fits (h.add k) w):Disj h' k/\Tr (h.add k) w (h'.add k) w':=by
 have d':Disj h' k:=by
  intro r;cases hr:h' r with
  | none=>exact .inl rfl
  | some x =>
   rcases t.new r x hr with⟨y,hy,_,_⟩|⟨hlt,_⟩
   ·rcases d r with h0|h0
    ·rw[hy]at h0;cases h0
    ·exact .inr h0
   ·cases hk:k r with
    | none=>exact .inr rfl
    | some z=>exact absurd ((Fits.right d hf).lt hk) (by omega)
 refine⟨d',?_,t.size,?_,?_,?_,?_,t.os,t.tape,t.output⟩
 ·intro r m o hr;rcases Cells.add_some hr with hr|⟨hn,hr⟩
  ·exact t.fits r m o hr
  ·have hk:=Fits.right d hf r m o hr;rw[t.other r ((Fits.right d hf).lt hr) ?_];exact hk;rintro⟨o',ho'⟩;rcases d r with h0|h0
   ·rw[ho']at h0;cases h0
   ·rw[hr]at h0;cases h0
 ·intro r hr hno;refine t.other r hr ?_;rintro⟨o,ho⟩;exact hno ⟨o,Cells.add_left ho⟩
 ·intro r o o₁ hr h1;rcases Cells.add_some hr with hr|⟨hn,hr⟩
  ·exact t.part r o o₁ hr h1
  ·refine⟨o₁,?_,(Fits.right d hf).keep hr h1⟩;rw[t.other r ((Fits.right d hf).lt hr) ?_];exact h1;rintro⟨o',ho'⟩;rw[hn]at ho';cases ho'
 ·intro r x hx;rcases Cells.add_some hx with hx|⟨hn,hx⟩
  ·rcases t.new r x hx with⟨y,hy,e⟩|h'
   ·exact .inl ⟨y,Cells.add_left hy,e⟩
   ·exact .inr h'
  ·exact .inl ⟨x,Cells.add_right' d hx,rfl,fun _=>Iff.rfl⟩
 ·intro r y hy;rcases Cells.add_some hy with hy|⟨hn,hy⟩
  ·obtain⟨x,hx,e⟩:=t.keep r y hy;exact⟨x,Cells.add_left hx,e⟩
  ·exact⟨y,Cells.add_right' d' hy,rfl,fun _=>Iff.rfl⟩
theorem EvOk.frame{h k:Cells}{n n':Nat}{e:Event}(he:EvOk h n n' e):EvOk (h.add k) n n' e:=by
 have key:∀ r (p:Obj->Prop),((n<=r/\r<n')\/∃ x,h r=some x/\(e.write=true->x.1=true)/\p x.2)->((n<=r/\r<n')\/∃ x,h.add k r=some x/\(e.write=true->x.1=true)/\p x.2):=by
  rintro r p (hr|⟨x,hx,hw⟩)
  ·exact .inl hr
  ·exact .inr ⟨x,Cells.add_left hx,hw⟩
 unfold EvOk at he ⊢;split at he
 ·rename_i a _;exact⟨he.1,key _ (fun o=>¬ isHole o a.off) he.2⟩
 ·exact key _ (fun o=>∀ i,¬ isHole o i) he
 ·exact he
 ·exact he
theorem Cells.add_swap{a b c:Cells}(d:Disj b c):(a.add b).add c=(a.add c).add b:=by
 funext r;unfold Cells.add;cases a r with
 | some x=>rfl
 | none =>
  rcases d r with h|h
  ·simp[h];cases c r<;>rfl
  ·simp[h];cases b r<;>rfl
theorem Disj.add{a b c:Cells}(h1:Disj a c)(h2:Disj b c):Disj (a.add b) c:=by
 intro r;rcases h1 r with h|h
 ·rcases h2 r with h'|h'
  ·left;rw[Cells.add_right h];exact h'
  ·exact .inr h'
 ·exact .inr h
theorem Disj.of_add_left{a b c:Cells}(h:Disj (a.add b) c):Disj a c:=by
 intro r;rcases h r with h|h
 ·left;cases ha:a r with
  | none=>rfl
  | some x=>rw[Cells.add_left ha]at h;cases h
 ·exact .inr h
theorem Disj.of_add_right{a b c:Cells}(d:Disj a b)(h:Disj (a.add b) c):Disj b c:=by
 intro r;rcases h r with h|h
 ·left;cases hb:b r with
  | none=>rfl
  | some x=>rw[Cells.add_right' d hb]at h;cases h
 ·exact .inr h
def LStep(P:Program)(main:Bool)(g:Goroutine)(h:LH)(N:Goroutine->LH->Prop):Prop :=
 ∀ w,Fits h.get w->∃ g' w' es h',stepG P main g w=.go g' w' es/\Tr h.get w h' w'/\(∀ e∈es,EvOk h.get w.heap.size w'.heap.size e)/\N g' { h with get:=h' }
structure LClosed(P:Program)(main:Bool)(R:Goroutine->LH->Prop):Prop where
 step:∀ fr cs h N,LStep P main (G fr cs) h N->(∀ g' h',N g' h'->R g' h')->R (G fr cs) h
 up:∀ g h k,R g h->Disj h.get k->R g (h.add k)
theorem LStep.frame{P:Program}{main:Bool}{g:Goroutine}{h:LH}{N:Goroutine->LH->Prop}{k:Cells}(s:LStep P main g h N)(d:Disj h.get k) :
  LStep P main g (h.add k) fun g' h₂=>∃ h',Disj h'.get k/\h₂=h'.add k/\N g' h':=by
 intro w hf;obtain⟨g',w',es,h',h1,h2,h3,h4⟩:=s w hf.left;obtain⟨d',t⟩:=h2.frame d hf;exact⟨g',w',es,h'.add k,h1,t,fun e he=>(h3 e he).frame,{ h with get:=h' },d',rfl,h4⟩
theorem LClosed.frame{P:Program}{main:Bool}{R:Goroutine->LH->Prop}(c:LClosed P main R)(k:Cells) :
  LClosed P main fun g h=>Disj h.get k->R g (h.add k) where
 step fr cs h N s hn d:=by
  refine c.step fr cs _ _ (s.frame d) ?_;rintro g' h₂ ⟨h',d',rfl,hN⟩;exact hn g' h' hN d'
 up g h k' hR d d':=by
  have d1:Disj h.get k:=d'.of_add_left;have d2:Disj k' k:=Disj.of_add_right d d';have:=c.up g _ k' (hR d1) (Disj.add d d2.symm);have e:(h.add k).add k'=(h.add k').add k:=by
   unfold LH.add;simp only;rw[Cells.add_swap d2.symm]
  rw[<- e];exact this
structure XP where
 cond:Program->Bool->(Goroutine->LH->Prop)->Prop
 stk:Program->CallKind->List Frame->Prop
def Closed(X:XP)(P:Program)(main:Bool)(R:Goroutine->LH->Prop):Prop:=LClosed P main R/\X.cond P main R
theorem lwp_frame{α:Type}{P:Program}(s:Sem α):∀ {Q:α->Cells->Prop} {E:Halt->Cells->Prop} {h:Cells},Sem.lwp P s Q E h->∀ {k:Cells},Disj h k ->
  Sem.lwp P s (fun a h₂=>∃ h',Disj h' k/\h₂=h'.add k/\Q a h') (fun e h₂=>∃ h',Disj h' k/\h₂=h'.add k/\E e h') (h.add k):=by
 have cellAdd:∀ {h k:Cells} {a:Addr} {v:Value},h.cell? a=some v->(h.add k).cell? a=some v:=fun hc=>Cells.cell?_le (Cells.le_add _ _) hc;have updAdd:∀ {h k:Cells} {r:Nat} {x:Bool×Obj},(h.add k).upd r x=(h.upd r x).add k:=by
  intro h k r x;funext r';unfold Cells.upd Cells.add;by_cases e:r'=r<;>simp[e]
 induction s with
 | pure a=>intro Q E h hs k d;exact⟨h,d,rfl,hs⟩
 | load m a f ih=>intro Q E h hs k d;obtain⟨e,v,hc,hs⟩:=hs;exact⟨e,v,cellAdd hc,ih v hs d⟩
 | store m a v f ih =>
  intro Q E h hs k d;obtain⟨e,h1,⟨o,ho⟩,⟨v₀,h3⟩,h4,hs⟩:=hs;have d':Disj (h.setCell a v) k:=by
   intro r;rcases d r with hn|hn
   ·left;unfold Cells.setCell;by_cases e:r=a.block
    ·rw[if_pos e,hn]
    ·rw[if_neg e,hn]
   ·exact .inr hn
  have e2:(h.add k).setCell a v=(h.setCell a v).add k:=by
   funext r;unfold Cells.setCell Cells.add;by_cases e:r=a.block
   ·subst e;simp only[if_pos,ho];cases o<;>rfl
   ·simp only[if_neg e]
  refine⟨e,h1,⟨o,Cells.add_left ho⟩,⟨v₀,cellAdd h3⟩,?_,?_⟩
  ·unfold Cells.frozen? at h4 ⊢;rw[Cells.add_left ho];rw[ho]at h4;exact h4
  ·rw[e2];exact ih hs d'
 | new o f ih =>
  intro Q E h hs k d;refine unpend.mono hs fun hs r hr=>?_;have hh:h r=none:=by
   cases hx:h r with
   | none=>rfl
   | some x=>rw[Cells.add_left hx]at hr;cases hr
  have hk:k r=none:=by rw[Cells.add_right hh]at hr;exact hr
  rw[updAdd];refine ih r (hs r hh) ?_;intro r';by_cases e:r'=r
  ·subst e;exact .inr hk
  ·rw[Cells.upd_ne _ _ e];exact d r'
 | shape r f ih =>
  intro Q E h hs k d;obtain⟨⟨x,hx⟩,hs⟩:=hs;refine⟨⟨x,Cells.add_left hx⟩,?_⟩;have:(h.add k).shape? r=h.shape? r:=by unfold Cells.shape?;rw[Cells.add_left hx,hx]
  rw[this];exact ih _ hs d
 | freeze a n f ih =>
  intro Q E h hs k d;obtain⟨hn,⟨o,ho,hwo⟩,hs⟩:=hs;have e:(h.add k).freeze a n=(h.freeze a n).add k:=by
   funext r;unfold Cells.freeze Cells.add;by_cases e:r=a.block
   ·subst e;simp[ho]
   ·simp[e]
  refine⟨hn,⟨o,Cells.add_left ho,hwo⟩,?_⟩;rw[e];refine ih hs ?_;intro r;rcases d r with h1|h1
  ·left;unfold Cells.freeze;split
   ·rw[h1];rfl
   ·exact h1
  ·exact .inr h1
 | frozen a f ih =>
  intro Q E h hs k d;obtain⟨⟨x,hx⟩,hs⟩:=hs;refine⟨⟨x,Cells.add_left hx⟩,?_⟩;have:(h.add k).frozen? a=h.frozen? a:=by unfold Cells.frozen?;rw[Cells.add_left hx,hx]
  rw[this];exact ih _ hs d
 | getObj r f ih=>intro Q E h hs k d;obtain⟨m,o,h1,h2,hs⟩:=hs;exact⟨m,o,Cells.add_left h1,h2,ih _ hs d⟩
 | setObj r o f ih =>
  intro Q E h hs k d;obtain⟨⟨o₀,h1,h2⟩,hs⟩:=hs;refine⟨⟨o₀,Cells.add_left h1,h2⟩,hs.mono fun hs=>?_⟩;rw[updAdd];refine ih hs ?_;intro r';by_cases e:r'=r
  ·subst e;rcases d r' with hn|hn
   ·rw[h1]at hn;cases hn
   ·exact .inr hn
  ·rw[Cells.upd_ne _ _ e];exact d r'
 | choose q f ih =>
  intro Q E h hs k d;unfold Sem.lwp at hs ⊢;split
  ·rename_i hf;rw[if_pos hf]at hs;exact ih _ hs d
  ·rename_i hf;rw[if_neg hf]at hs;exact fun t=>ih _ (hs t) d
 | sys c f ih=>intro Q E h hs;exact hs.elim
 | program f ih=>intro Q E h hs k d;exact ih _ hs d
 | mark m f ih=>intro Q E h hs k d;exact⟨hs.1,ih hs.2 d⟩
 | halt e=>intro Q E h hs k d;exact⟨h,d,rfl,hs⟩
theorem mem_seen{P:Program}{fn:FuncId}{es:Array Event}{e:Event}(he:e∈seen P fn es):e∈es:=by
 unfold seen at he;simp only at he;rw[<- Array.foldl_toList]at he;have:∀ (l:List Event) (q:Bool) (kept:Array Event),e∈(l.foldl (fun (x:Bool×Array Event) (e:Event)=>match e.loc with
   | .mark (.extern f)=>((P.funcs[f]?).any (·.norace),x.2)
   | _=>(x.1,if x.1&&!e.sync then x.2 else x.2.push e)) (q,kept)).2->e∈kept\/e∈l:=by
  intro l
  induction l with
  | nil=>intro q kept h;exact .inl h
  | cons a l ih =>
   intro q kept h;rw[List.foldl_cons]at h;split at h
   ·rcases ih _ _ h with h|h
    ·exact .inl h
    ·exact .inr (List.mem_cons_of_mem _ h)
   ·rcases ih _ _ h with h|h
    ·split at h
     ·exact .inl h
     ·rcases Array.mem_push.1 h with h|h
      ·exact .inl h
      ·exact .inr (h▸List.mem_cons_self)
    ·exact .inr (List.mem_cons_of_mem _ h)
 rcases this es.toList _ _ he with h|h
 ·simp at h
 ·exact Array.mem_toList_iff.1 h
def Ret(P:Program)(kd:CallKind)(fr:Frame)(v:Value)(h:Cells):Prop :=
 fr.mode=.returning/\fr.defers=[]/\fr.kind=kd/\∃ fn,P.funcs[fr.fn]?=some fn/\Sem.lwp P (results fn fr.tmps) (fun v' h'=>v'=v/\h'=h) (fun _ _=>False) h
def HasBody(P : Program)(f : FuncId) : Prop := ∃ fn, P.funcs[f]? = some fn /\ fn.body.isSome = true /\ (fn.name == "runtime.NumGoroutine") = false
def FWK(X:XP)(P:Program)(kd:CallKind)(f:FuncId)(args:Array Value)(h:LH)(Q:Value->LH->Prop):Prop :=
 HasBody P f/\∀ main R,Closed X P main R->∀ cs,X.stk P kd cs->(∀ fr v h' k,fr.fn=f->Disj h'.get k->Ret P kd fr v (h'.get.add k)->Q v h'->R (G fr cs) (h'.add k)) ->
  R (G (Frame.enter P f args kd) cs) h
abbrev FW(X:XP)(P:Program)(f:FuncId)(args:Array Value)(h:LH)(Q:Value->LH->Prop):Prop:=FWK X P .normal f args h Q
def X0:XP:=⟨fun _ _ _=>True,fun _ _ _=>True⟩
theorem FW.mono{X:XP}{P:Program}{kd:CallKind}{f:FuncId}{args:Array Value}{h:LH}{Q Q':Value->LH->Prop}(c:FWK X P kd f args h Q)(hq:∀ v h,Q v h->Q' v h):FWK X P kd f args h Q' :=
 ⟨c.1,fun main R hR cs hst hk=>c.2 main R hR cs hst fun fr v h' k hf d hr hQ=>hk fr v h' k hf d hr (hq v h' hQ)⟩
theorem FW.top{X:XP}{P:Program}{kd:CallKind}{f:FuncId}{args:Array Value}{h:LH}{Q:Value->LH->Prop}(c:FWK X0 P kd f args h Q):FWK X P kd f args h Q :=
 ⟨c.1,fun main R hR cs _ hk=>c.2 main R ⟨hR.1,trivial⟩ cs trivial hk⟩
structure XOK(X:XP):Prop where
 frame:∀ P main R k,LClosed P main R->X.cond P main R->X.cond P main fun g h=>Disj h.get k->R g (h.add k)
 stk:∀ P cs,X.stk P .normal cs
theorem X0_ok:XOK X0:=⟨fun _ _ _ _ _ _=>trivial,fun _ _=>trivial⟩
theorem Closed.frame{X:XP}{P:Program}{main:Bool}{R:Goroutine->LH->Prop}(hX:XOK X)(c:Closed X P main R)(k:Cells):Closed X P main fun g h=>Disj h.get k->R g (h.add k) :=
 ⟨c.1.frame k,hX.frame P main R k c.1 c.2⟩
theorem Ret.frame{P:Program}{kd:CallKind}{fr:Frame}{v:Value}{h k:Cells}(r:Ret P kd fr v h)(d:Disj h k):Ret P kd fr v (h.add k):=by
 obtain⟨r1,r2,r3,fn,r4,r5⟩:=r;refine⟨r1,r2,r3,fn,r4,Sem.lwp_mono _ (lwp_frame (results fn fr.tmps) r5 d) ?_ ?_⟩
 ·rintro a h₂ ⟨h₁,_,rfl,rfl,rfl⟩;exact⟨rfl,rfl⟩
 ·rintro e h₂ ⟨_,_,_,hf⟩;exact hf.elim
theorem FW.frame{X:XP}{P:Program}{kd:CallKind}(hX:XOK X){f:FuncId}{args:Array Value}{h:LH}{Q:Value->LH->Prop}(c:FWK X P kd f args h Q){k:Cells}(d:Disj h.get k) :
  FWK X P kd f args (h.add k) fun v h₂=>∃ h',Disj h'.get k/\h₂=h'.add k/\Q v h':=by
 refine⟨c.1,?_⟩;intro main R hR cs hst hk;refine c.2 main (fun g h=>Disj h.get k->R g (h.add k)) (hR.frame hX k) cs hst ?_ d;intro fr v h' j hf dj hr hQ dk;have d1:Disj h'.get k:=dk.of_add_left;have d2:Disj j k:=Disj.of_add_right dj dk;have e:(h'.add j).add k=(h'.add k).add j:=by
  unfold LH.add;simp only;rw[Cells.add_swap d2]
 have hd:Disj (h'.add k).get j:=Disj.add dj d2.symm;rw[e];refine hk fr v (h'.add k) j hf hd ?_ ⟨h',d1,rfl,hQ⟩;show Ret P kd fr v ((h'.get.add k).add j);rw[<- Cells.add_swap d2];exact hr.frame dk
theorem ret_step{P:Program}{main:Bool}{R:Goroutine->LH->Prop}(hR:LClosed P main R){fr c:Frame}{cs:List Frame}{v:Value}{h:LH}(r:Ret P .normal fr v h.get)(hn:R (G (c.finish v) cs) h):R (G fr (c::cs)) h:=by
 refine hR.step fr (c::cs) h R ?_ (fun _ _ h=>h);intro w hf;obtain⟨r1,r2,r3,fn,r4,r5⟩:=r;obtain⟨w',h',es',t,hes,hq⟩:=lwp_sound P _ _ _ h.get w #[] hf r5;rcases hq with⟨v',hrun,rfl,rfl⟩|⟨e,hrun,hE⟩
 ·rw[Array.empty_append]at hrun;have hrun1:((results fn fr.tmps).runT P w #[]).1=.ok v' w':=by rw[hrun]
  simp only[Sem.runT_fst]at hrun1;refine⟨G (c.finish v') cs,w',seen P fr.fn es',h.get,?_,t,fun e he=>hes e (mem_seen he),hn⟩;have hrun2:Sem.events P (results fn fr.tmps) w #[]=es':=by show ((results fn fr.tmps).runT P w #[]).2=es';rw[hrun]
  simp[G,stepG,unwind,r1,r2,r4,hrun1,hrun2,GStep.after,doReturn,r3]
 ·exact hE.elim
end
section
inductive LExit where
 | fall
 | exit (id:Nat)
 | ret
 deriving DecidableEq
inductive Leaf where
 | ret (v:Value)
 | again (vs:List Value)
 | brk (vs:List Value)
 | retn (vs:List Value)
 | out (j:Nat) (vs:List Value)
inductive T where
 | fail
 | leaf (l:Leaf)
 | need (p:Prop) (k:T)
 | someA (p:Option Addr) (k:Addr->T)
 | loadI (ik:IntKind) (a:Addr) (k:Int->T)
 | loadB (a:Addr) (k:Bool->T)
 | loadS (a:Addr) (k:Option Addr->Nat->Nat->T)
 | loadP (a:Addr) (k:Option Addr->T)
 | loadM (a:Addr) (k:Option Nat->T)
 | loadC (a:Addr) (k:Option Nat->T)
 | loadStr (a:Addr) (k:ByteArray->T)
 | loadV (a:Addr) (k:Value->T)
 | store (a:Addr) (v:Value) (k:T)
 | new (elem:TypeId) (cells:Array Value) (k:Nat->T)
 | call (q:Bool) (f:FuncId) (args:Array Value) (k:Value->T)
 | callv (q:Bool) (f:Value) (args:Array Value) (k:Value->T)
 | sem (q:Bool) (s:Sem Value) (k:Value->T)
 | loop (init:List Value) (body:List Value->T) (kb kr:List Value->T) (ko:Nat->List Value->T)
 | blk (body:T) (kf kr:List Value->T) (ko:Nat->List Value->T)
 | spawn (f:Value) (args:Array Value) (k:T)
 | comm (last:Bool) (cases:Array CommCase) (shape:CommShape) (k:Value->T)
 | both (a b:T)
 | mem (p:LH->Prop) (k:T)
 | each (f:Value) (init:List Value) (body:List Value->List Value->T) (kf kb kr:List Value->T) (ko:Nat->List Value->T)
def Nx(P:Program)(R:Goroutine->LH->Prop)(fr:Frame)(cs:List Frame)(h:LH):Next->Prop
 | .value v=>R (G (fr.finish v) cs) h
 | .skip=>R (G (fr.finish undef) cs) h
 | .enter f args=>R (G (Frame.enter P f args .normal) (fr::cs)) h
 | .round l f tmps assign body=>R (G (Frame.round l f tmps assign body .normal) (fr::cs)) h
 | _=>False
def AtOp(fr:Frame):Prop:=fr.mode=.run/\(∃ ops i rest k,fr.todo=.inRegion ops (i::rest)::k)/\fr.kind≠.early
def CV(X:XP)(P:Program)(v:Value)(args:Array Value)(h:LH)(Q:Value->LH->Prop):Prop :=
 ∀ main R,Closed X P main R->∀ fr cs,(∀ v h' k,Disj h'.get k->Q v h'->R (G (fr.finish v) cs) (h'.add k)) ->
  Sem.lwp P (do let d <- Deferred.ofValue v args;invoke d.target d.args) (fun nx h'=>Nx P R fr cs { h with get:=h' } nx) (fun _ _=>False) h.get
def Hands(X:XP)(P:Program)(fv:Value)(h₀:LH)(L:List (List Value)):Prop :=
 ∀ (y:Value) (J:Nat->LH->Prop) (E:LH->Prop),
  (∀ i h k,J i h->Disj h.get k->J i (h.add k))->(∀ h k,E h->Disj h.get k->E (h.add k)) ->
  (∀ i h xs,h₀.le h->L[i]?=some xs->J i h->CV X P y xs.toArray h fun b h'=>h₀.le h'/\((b=.bool true/\J (i+1) h')\/(b=.bool false/\E h'))) ->
  ∀ h,h₀.le h->J 0 h->CV X P fv #[y] h fun _ h'=>h₀.le h'/\(J L.length h'\/E h')
def HandsG(X:XP)(P:Program)(fv:Value)(h₀:LH){S:Type}(nx:S->List Value->S->Prop)(fin:S->Prop)(s₀:S):Prop :=
 ∀ (y:Value) (J:S->LH->Prop) (E:LH->Prop),
  (∀ s h k,J s h->Disj h.get k->J s (h.add k))->(∀ h k,E h->Disj h.get k->E (h.add k)) ->
  (∀ s h xs s',h₀.le h->nx s xs s'->J s h->CV X P y xs.toArray h fun b h'=>h₀.le h'/\((b=.bool true/\J s' h')\/(b=.bool false/\E h'))) ->
  ∀ h,h₀.le h->J s₀ h->CV X P fv #[y] h fun _ h'=>h₀.le h'/\((∃ s,fin s/\J s h')\/E h')
def HandsF(X:XP)(P:Program)(fv:Value)(h₀:LH)(k₀:Cells){S:Type}(nx:S->List Value->S->Prop)(fin:S->Prop)(s₀:S):Prop :=
 ∀ (y:Value) (J:S->LH->Prop) (E:LH->Prop),
  (∀ s h k,J s h->Disj h.get k->J s (h.add k))->(∀ h k,E h->Disj h.get k->E (h.add k)) ->
  (∀ s h xs s',h₀.le h->nx s xs s'->J s h->CV X P y xs.toArray h fun b h'=>h₀.le h'/\((b=.bool true/\J s' h')\/(b=.bool false/\E h'))) ->
  ∀ h,h₀.le h->J s₀ h->Disj h.get k₀->CV X P fv #[y] (h.add k₀) fun _ h'=>h₀.le h'/\((∃ s,fin s/\J s h')\/E h')
def deferOf(v:Value)(args:Array Value):Deferred :=
 match v with
 | .func fn first cap=>{ target:=.fn fn cap,args:=first++args }
 | _=>default
def SpawnW(X:XP)(P:Program)(v:Value)(args:Array Value)(h:LH)(Q:LH->Prop):Prop :=
 ∀ main R,Closed X P main R->∀ fr cs,AtOp fr->X.stk P fr.kind cs ->
  (∀ w,stepG P main (G fr cs) w=.spawn (G (fr.finish undef) cs) (G { (default:Frame) with fn:=P.funcs.size,defers:=[deferOf v args],mode:=.panicking [goexitEntry] } []) w #[]) ->
  ∀ k,Disj h.get k->(∀ h',Disj h'.get k->Q h'->R (G (fr.finish undef) cs) (h'.add k))->R (G fr cs) (h.add k)
def Ends(P:Program)(fr:Frame):Prop :=
 (∃ ops i,fr.todo=[.inRegion ops [i]])/\fr.mode=.run/\fr.defers=[]/\fr.roundOf=none/\fr.kind=.deferred/\∃ fd,P.funcs[fr.fn]?=some fd/\fd.results=#[]
def CommW(X:XP)(P:Program)(last:Bool)(cases:Array CommCase)(shape:CommShape)(h:LH)(Q:Value->LH->Prop):Prop :=
 ∀ main R,Closed X P main R->∀ fr cs,AtOp fr->X.stk P fr.kind cs->(last=true->Ends P fr) ->
  (∀ w,stepG P main (G fr cs) w=.comm (G fr cs) cases true shape w #[]) ->
  ∀ k,Disj h.get k->(∀ v h',Disj h'.get k->Q v h'->R (G (fr.finish v) cs) (h'.add k))->R (G fr cs) (h.add k)
def Leaf.go(l:Leaf)(h:LH)(ka kb kr:List Value->LH->Prop)(ko:Nat->List Value->LH->Prop):Prop :=
 match l with
 | .ret _=>False
 | .again vs=>ka vs h
 | .brk vs=>kb vs h
 | .retn vs=>kr vs h
 | .out j vs=>ko j vs h
def T.wp(X:XP)(P:Program):T->(Leaf->LH->Prop)->LH->Prop
 | .fail,_,_=>False
 | .leaf l,Q,h=>Q l h
 | .need p k,Q,h=>p/\k.wp X P Q h
 | .someA p k,Q,h=>∃ a,p=some a/\(k a).wp X P Q h
 | .loadI ik a k,Q,h=>∃ n,h.get.cell? a=some (.int ik n)/\(k n).wp X P Q h
 | .loadB a k,Q,h=>∃ b,h.get.cell? a=some (.bool b)/\(k b).wp X P Q h
 | .loadS a k,Q,h=>∃ p n c,h.get.cell? a=some (.slice p n c)/\(k p n c).wp X P Q h
 | .loadP a k,Q,h=>∃ p,h.get.cell? a=some (.pointer p)/\(k p).wp X P Q h
 | .loadM a k,Q,h=>∃ p,h.get.cell? a=some (.map p)/\(k p).wp X P Q h
 | .loadC a k,Q,h=>∃ p,h.get.cell? a=some (.chan p)/\(k p).wp X P Q h
 | .loadStr a k,Q,h=>∃ s,h.get.cell? a=some (.string s)/\(k s).wp X P Q h
 | .loadV a k,Q,h=>∃ v,h.get.cell? a=some v/\(k v).wp X P Q h
 | .store a v k,Q,h=>isOne v=true/\h.get.own a.block/\(∃ v₀,h.get.cell? a=some v₀)/\h.get.frozen? a=false/\k.wp X P Q { h with get:=h.get.setCell a v }
 | .new e cs k,Q,h=>∀ r,h.get r=none->(k r).wp X P Q { h with get:=h.get.upd r (true,.cells cs e) }
 | .call q f args k,Q,h=>FW X P f args h fun v h'=>(q=true->h.get.le h'.get)/\(k v).wp X P Q h'
 | .callv q v args k,Q,h=>CV X P v args h fun v h'=>(q=true->h.get.le h'.get)/\(k v).wp X P Q h'
 | .sem q s k,Q,h=>Sem.lwp P s (fun v h'=>(q=true->h.get.le h')/\(k v).wp X P Q { h with get:=h' }) (fun _ _=>False) h.get
 | .loop init body kb kr ko,Q,h=>∀ Y:List Value->LH->Prop,
   (∀ vs h,(body vs).wp X P (fun l h'=>l.go h' Y (fun vs h'=>(kb vs).wp X P Q h') (fun vs h'=>(kr vs).wp X P Q h') (fun j vs h'=>(ko j vs).wp X P Q h')) h->Y vs h)->Y init h
 | .blk body kf kr ko,Q,h=>body.wp X P (fun l h'=>l.go h' (fun vs h'=>(kf vs).wp X P Q h') (fun _ _=>False) (fun vs h'=>(kr vs).wp X P Q h') (fun j vs h'=>(ko j vs).wp X P Q h')) h
 | .spawn v args k,Q,h=>SpawnW X P v args h fun h'=>k.wp X P Q h'
 | .comm last cases shape k,Q,h=>CommW X P last cases shape h fun v h'=>(k v).wp X P Q h'
 | .both a b,Q,h=>a.wp X P Q h/\b.wp X P Q h
 | .mem p k,Q,h=>p h/\k.wp X P Q h
 | .each v init body kf kb kr ko,Q,h=>∃ (S:Type) (nx:S->List Value->S->Prop) (fin:S->Prop) (s₀:S) (h₀ hm:LH) (k₀:Cells),h=hm.add k₀/\Disj hm.get k₀/\LH.le h₀ hm/\HandsF X P v h₀ k₀ nx fin s₀ /\
   ∀ Y:S->List Value->LH->Prop,(∀ s vs h',LH.le h₀ h'->(fin s->(kf vs).wp X P Q h') ->
    (∀ xs s',nx s xs s'->(body xs vs).wp X P (fun l h''=>LH.le h₀ h''/\l.go h'' (fun vs' h''=>Y s' vs' h'') (fun vs h'=>(kb vs).wp X P Q h') (fun vs h'=>(kr vs).wp X P Q h') (fun j vs h'=>(ko j vs).wp X P Q h')) h')->Y s vs h')->Y s₀ init hm
inductive AV where
 | val (v:Value)
 | pp (k off:Nat)
 | bad
abbrev Env:=List (Nat×AV)
def Env.get:Env->Nat->Option AV
 | [],_=>none
 | (j,a)::e,i=>match Nat.beq j i with
  | true=>some a
  | false=>Env.get e i
def Env.keep(p:Nat->Bool):Env->Env
 | []=>[]
 | (j,a)::e=>match p j with
  | true=>(j,a)::Env.keep p e
  | false=>Env.keep p e
def AV.scrap(W:Nat->Bool)(a:AV):AV :=
 match a with
 | .pp k o=>match W k with
  | true=>.bad
  | false=>.pp k o
 | a=>a
def Env.scrap(W:Nat->Bool):Env->Env
 | []=>[]
 | (j,a)::e=>(j,a.scrap W)::Env.scrap W e
def pkey(k j:Nat):Nat:=(k+1)*4096+j
def blockOf(s:Nat):Nat:=s / 4096-1
def isPriv(s:Nat):Bool:=Nat.ble 4096 s
def memN:List Nat->Nat->Bool
 | [],_=>false
 | j::l,i=>match Nat.beq j i with
  | true=>true
  | false=>memN l i
inductive Kind where
 | int (k:IntKind)|bool|slice|ptr|map|chan|str|any|adr
inductive Shape where
 | cell (k:Kind)
 | agg (ks:List Kind)
structure LoopNote where
 id:Nat
 slots:List (Nat×Kind)
 ro:List Nat:=[]
 outs:List Nat:=[]
 ps:List Shape:=[]
 pps:List Nat:=[]
structure Ctx where
 P:Program
 priv:List Nat:=[]
 loops:List LoopNote:=[]
 joins:List LoopNote:=[]
 kd:CallKind:=.normal
def findNote(id:Nat):List LoopNote->Option LoopNote
 | []=>none
 | n::l=>match Nat.beq n.id id with
  | true=>some n
  | false=>findNote id l
def T.unI(ik:IntKind)(v:Value)(k:Int->T):T :=
 match v with
 | .int ik' n=>match decide (ik'=ik) with|true=>k n|false=>.fail
 | _=>.fail
def T.unB(v:Value)(k:Bool->T):T:=match v with | .bool b=>k b|_=>.fail
def T.unS(v:Value)(k:Option Addr->Nat->Nat->T):T:=match v with | .slice a n c=>k a n c|_=>.fail
def T.unP(v:Value)(k:Option Addr->T):T:=match v with | .pointer a=>k a|_=>.fail
def T.unA(v:Value)(k:Addr->T):T:=match v with | .pointer (some a)=>k a|_=>.fail
def T.unM(v:Value)(k:Option Nat->T):T:=match v with | .map a=>k a|_=>.fail
def T.unC(v:Value)(k:Option Nat->T):T:=match v with | .chan a=>k a|_=>.fail
def T.unStr(v:Value)(k:ByteArray->T):T:=match v with | .string a=>k a|_=>.fail
def T.un(kd:Kind)(v:Value)(k:Value->T):T :=
 match kd with
 | .int ik=>T.unI ik v fun n=>k (.int ik n)
 | .bool=>T.unB v fun b=>k (.bool b)
 | .slice=>T.unS v fun a n c=>k (.slice a n c)
 | .ptr=>T.unP v fun a=>k (.pointer a)
 | .map=>T.unM v fun a=>k (.map a)
 | .chan=>T.unC v fun a=>k (.chan a)
 | .str=>T.unStr v fun s=>k (.string s)
 | .any=>k v
 | .adr=>T.unA v fun a=>k (.pointer (some a))
def T.unCons(vs:List Value)(k:Value->List Value->T):T:=match vs with|v::vs=>k v vs | []=>.fail
def T.unNil(vs:List Value)(k:T):T:=match vs with | []=>k|_::_=>.fail
def T.unAgg(v:Value)(k:List Value->T):T:=match v with | .agg cs=>k cs.toList|_=>.fail
def T.unTup(v:Value)(k:List Value->T):T:=match v with | .tuple cs=>k cs.toList|_=>.fail
def T.popI(ik:IntKind)(vs:List Value)(k:Int->List Value->T):T :=
 match vs with
 | .int ik' n::vs=>match decide (ik'=ik) with|true=>k n vs|false=>.fail
 | _=>.fail
def T.popB(vs:List Value)(k:Bool->List Value->T):T:=match vs with | .bool b::vs=>k b vs|_=>.fail
def T.popS(vs:List Value)(k:Option Addr->Nat->Nat->List Value->T):T:=match vs with | .slice a n c::vs=>k a n c vs|_=>.fail
def T.popP(vs:List Value)(k:Option Addr->List Value->T):T:=match vs with | .pointer a::vs=>k a vs|_=>.fail
def T.popA(vs:List Value)(k:Addr->List Value->T):T:=match vs with | .pointer (some a)::vs=>k a vs|_=>.fail
def T.popM(vs:List Value)(k:Option Nat->List Value->T):T:=match vs with | .map a::vs=>k a vs|_=>.fail
def T.popC(vs:List Value)(k:Option Nat->List Value->T):T:=match vs with | .chan a::vs=>k a vs|_=>.fail
def T.popStr(vs:List Value)(k:ByteArray->List Value->T):T:=match vs with | .string a::vs=>k a vs|_=>.fail
def T.popV(vs:List Value)(k:Value->List Value->T):T:=match vs with|a::vs=>k a vs|_=>.fail
def T.pop(kd:Kind)(vs:List Value)(k:Value->List Value->T):T :=
 match kd with
 | .int ik=>T.popI ik vs fun n=>k (.int ik n)
 | .bool=>T.popB vs fun b=>k (.bool b)
 | .slice=>T.popS vs fun a n c=>k (.slice a n c)
 | .ptr=>T.popP vs fun a=>k (.pointer a)
 | .map=>T.popM vs fun a=>k (.map a)
 | .chan=>T.popC vs fun a=>k (.chan a)
 | .str=>T.popStr vs fun s=>k (.string s)
 | .any=>T.popV vs k
 | .adr=>T.popA vs fun a=>k (.pointer (some a))
def T.unList:List Kind->List Value->(List Value->T)->T
 | [],vs,k=>T.unNil vs (k [])
 | kd::ks,vs,k=>T.pop kd vs fun v vs=>T.unList ks vs fun l=>k (v::l)
def T.loadK(kd:Kind)(a:Addr)(k:Value->T):T :=
 match kd with
 | .int ik=>.loadI ik a fun n=>k (.int ik n)
 | .bool=>.loadB a fun b=>k (.bool b)
 | .slice=>.loadS a fun p n c=>k (.slice p n c)
 | .ptr=>.loadP a fun p=>k (.pointer p)
 | .map=>.loadM a fun p=>k (.map p)
 | .chan=>.loadC a fun p=>k (.chan p)
 | .str=>.loadStr a fun s=>k (.string s)
 | .any=>.loadV a k
 | .adr=>.fail
def T.loadL(a:Addr):List Kind->Nat->(List Value->T)->T
 | [],_,k=>k []
 | kd::ks,i,k=>T.loadK kd (a.add i) fun v=>T.loadL a ks (i+1) fun l=>k (v::l)
def T.storeL(a:Addr):List Value->Nat->T->T
 | [],_,k=>k
 | v::vs,i,k=>.store (a.add i) v (T.storeL a vs (i+1) k)
def appL{α:Type}:List α->List α->List α
 | [],m=>m
 | x::l,m=>x::appL l m
def repL{α:Type}:Nat->List α->List α
 | 0,_=>[]
 | n+1,l=>appL l (repL n l)
mutual

def kindsF(P:Program):Nat->TypeId->Option (List Kind)
 | 0,_=>none
 | d+1,t =>
  match P.underlying t with
  | some (.int k)=>some [.int k]
  | some .bool=>some [.bool]
  | some .string=>some [.str]
  | some (.pointer _)=>some [.ptr]
  | some (.slice _)=>some [.slice]
  | some (.map _ _)=>some [.map]
  | some (.chan _ _)=>some [.chan]
  | some (.func _ _ _)=>some [.any]
  | some (.interface _)=>some [.any]
  | some (.struct fs)=>kindsL P d fs.toList
  | some (.array n e)=>(kindsF P d e).map (repL n)
  | _=>none
def kindsL(P:Program):Nat->List Field->Option (List Kind)
 | 0,_=>none
 | _+1,[]=>some []
 | d+1,f::fs=>match kindsF P d f.type,kindsL P d fs with
  | some a,some b=>some (appL a b)
  | _,_=>none
end
def kindsOf(P:Program)(t:TypeId):Option (List Kind):=kindsF P 40 t
def isAggT(P:Program)(t:TypeId):Bool :=
 match P.underlying t with
 | some (.struct _)|some (.array _ _)=>true
 | _=>false
def sizeT(P:Program)(t:TypeId):Option Nat:=(P.info? t).map (·.size)
def shapeOf(P:Program)(t:TypeId):Option Shape :=
 match isAggT P t with
 | true=>(kindsOf P t).map .agg
 | false=>match kindsOf P t with
  | some [k]=>some (.cell k)
  | _=>none
def shapesOf(P:Program):List TypeId->Option (List Shape)
 | []=>some []
 | t::ts=>match shapeOf P t,shapesOf P ts with
  | some a,some b=>some (a::b)
  | _,_=>none
def T.unSh:Shape->Value->(Value->T)->T
 | .cell kd,v,k=>T.un kd v k
 | .agg kds,v,k=>T.unAgg v fun l=>T.unList kds l fun l=>k (.agg l.toArray)
def T.unShs:List Shape->List Value->(List Value->T)->T
 | [],vs,k=>T.unNil vs (k [])
 | s::ss,vs,k=>T.unCons vs fun v vs=>T.unSh s v fun v=>T.unShs ss vs fun l=>k (v::l)
def T.shaped(P:Program)(t:TypeId)(v:Value)(k:Value->T):T :=
 match shapeOf P t with
 | some s=>T.unSh s v k
 | none=>k v
def T.unRes(ss:List Shape)(v:Value)(k:Value->T):T :=
 match ss with
 | [s]=>T.unSh s v k
 | ss=>T.unTup v fun l=>T.unShs ss l fun l=>k (.tuple l.toArray)
def slotA(e:Env)(t:Nat):Option AV:=match isPriv t with|true=>none|false=>e.get t
def opdA(e:Env):Operand->Option AV
 | .tmp t=>slotA e t
 | .const v=>some (.val v)
 | .global g=>some (.val (.pointer (some ⟨g,0,none⟩)))
 | .func f=>some (.val (.func (.func f) #[] #[]))
def withA(a:Option AV)(k:AV->T):T:=match a with|some a=>k a|none=>.fail
def withV(a:Option AV)(k:Value->T):T:=match a with|some (.val v)=>k v|_=>.fail
def withVs(e:Env):List Operand->(List Value->T)->T
 | [],k=>k []
 | x::xs,k=>withV (opdA e x) fun v=>withVs e xs fun l=>k (v::l)
def withParts(e:Env):List (Nat×Operand)->(List (Nat×Value)->T)->T
 | [],k=>k []
 | (i,x)::xs,k=>withV (opdA e x) fun v=>withParts e xs fun l=>k ((i,v)::l)
def setD(e:Env)(dst:Option Tmp)(a:AV):Env:=match dst with|some d=>(d,a)::e|none=>e
def privCells(e:Env)(k:Nat):Nat->Nat->Option (List Value)
 | _,0=>some []
 | j,n+1=>match e.get (pkey k j),privCells e k (j+1) n with
  | some (.val v),some l=>some (v::l)
  | _,_=>none
def privLoad(P:Program)(e:Env)(i j:Nat)(t:TypeId):Option Value :=
 match P.underlying t,Nat.ble (j+P.cellsOf t) 4095 with
 | some _,true=>match isAggT P t with
  | true=>match privCells e i j (P.cellsOf t) with
   | some l=>some (.agg l.toArray)
   | none=>none
  | false=>match e.get (pkey i j) with
   | some (.val v)=>some v
   | _=>none
 | _,_=>none
def setCells(k:Nat):Nat->List Value->Env->Env
 | _,[],e=>e
 | j,v::vs,e=>(pkey k j,.val v)::setCells k (j+1) vs e
def lenL{α:Type}:List α->Nat
 | []=>0
 | _::l=>lenL l+1
def cellsL(v:Value):List Value:=match v with | .agg cs=>cs.toList|v=>[v]
def intOp(op:BinOp)(ka:IntKind)(x y:Int)(k:Value->T):T :=
 match op with
 | .add=>k (.int ka (ka.wrap (x+y)))
 | .sub=>k (.int ka (ka.wrap (x-y)))
 | .mul=>k (.int ka (ka.wrap (x*y)))
 | .quo=>.need (y≠0) (k (.int ka (ka.wrap (x.tdiv y))))
 | .rem=>.need (y≠0) (k (.int ka (x.tmod y)))
 | .and=>k (.int ka (ka.wrap (BitVec.ofInt ka.bits x &&& BitVec.ofInt ka.bits y).toNat))
 | .or=>k (.int ka (ka.wrap (BitVec.ofInt ka.bits x ||| BitVec.ofInt ka.bits y).toNat))
 | .xor=>k (.int ka (ka.wrap (BitVec.ofInt ka.bits x ^^^ BitVec.ofInt ka.bits y).toNat))
 | .andNot=>k (.int ka (ka.wrap (BitVec.ofInt ka.bits x &&& ~~~BitVec.ofInt ka.bits y).toNat))
 | .eql=>k (.bool (x==y))
 | .neq=>k (.bool (x != y))
 | .lss=>k (.bool (decide (x<y)))
 | .leq=>k (.bool (decide (x<=y)))
 | .gtr=>k (.bool (decide (x>y)))
 | .geq=>k (.bool (decide (x>=y)))
 | _=>.fail
def isBoolT(P:Program)(t:TypeId):Bool:=match P.underlying t with|some .bool=>true|_=>false
def T.unCmp(op:BinOp)(a:Value)(v:Value)(k:Value->T):T :=
 match op with
 | .eql | .neq | .lss | .leq | .gtr | .geq=>T.unB v fun b=>k (.bool b)
 | .add=>match a with
  | .string _=>T.unStr v fun s=>k (.string s)
  | _=>k v
 | _=>k v
def binT(P:Program)(q:Bool)(op:BinOp)(t:TypeId)(x y:Operand)(a b:Value)(k:Value->T):T :=
 match a,b with
 | .int ka m,.int kb n =>
  match op with
  | .shl=>.need (0<=n) (k (.int ka (ka.wrap (m*2^(min n.toNat ka.bits)))))
  | .shr=>.need (0<=n) (k (.int ka (m.fdiv (2^(min n.toNat ka.bits)))))
  | op=>match decide (ka=kb) with
   | true=>intOp op ka m n k
   | false=>.fail
 | .bool m,.bool n =>
  match op,isBoolT P t with
  | .eql,true=>k (.bool (m==n))
  | .neq,true=>k (.bool (!(m==n)))
  | _,_=>.fail
 | a,b=>.sem q (do eqGuard op t x y a b;binOp op t a b) fun v=>T.unCmp op a v k
def offOf(P:Program)(s:TypeId)(f:Nat):Option Nat :=
 match P.underlying s with
 | some (.struct fs)=>match fs[f]? with
  | some fd=>match P.cellsOf fd.type with
   | 0=>none
   | _+1=>some fd.offset
  | none=>none
 | _=>none
def zerosOf(P:Program)(t:TypeId):Option Value:=(P.info? t).bind (·.zero)
def buildV(P:Program)(t:TypeId)(l:List (Nat×Value)):Option Value :=
 match zerosOf P t,P.underlying t with
 | some z,some (.struct fs)=>match fs.toList.all (fun f=>(P.info? f.type).isSome) with
  | true=>(Instr.fill (fun i=>(fs[i]?).map fun f=>(f.offset,P.cellsOf f.type)) z.cells l).map .agg
  | false=>none
 | some z,some (.array _ el)=>match P.info? el with
  | some i=>(Instr.fill (fun j=>some (j*i.size,i.size)) z.cells l).map .agg
  | none=>none
 | _,_=>none
def fnOk(v:Value):Bool:=match v with | .func _ _ _=>true|_=>false
def T.unSlice(v w:Value)(k:Value->T):T :=
 match v with
 | .string _=>T.unStr w fun s=>k (.string s)
 | _=>T.unS w fun a n c=>k (.slice a n c)
def lenOk(P:Program)(ts:Array TypeId):Bool :=
 match ts[0]? with
 | some t=>match P.underlying t with
  | some (.slice _)=>true
  | _=>false
 | none=>false
def anew(d:Nat)(e:Env):Env:=Env.keep (fun s=>!(isPriv s&&Nat.beq (blockOf s) d)) (Env.scrap (Nat.beq d) e)
def onesT(l:List Value)(k:T):T:=match l with
 | []=>k
 | v::l=>bif isOne v then onesT l k else .fail
def T.unNext(v:Value)(k:Value->T):T:=T.unTup v fun l=>T.unCons l fun b l=>T.unB b fun b=>bif b then T.unShs [.cell .any,.cell .any] l fun l=>k (.tuple (.bool true::l).toArray) else T.unNil l (k (.tuple #[.bool false]))
def selT(C:Ctx)(e:Env):List SelectCase->(List CommCase->List Shape->T)->T
 | [],k=>k [] []
 | s::l,k=>match s.send,zerosOf C.P s.elem,shapeOf C.P s.elem with
  | none,some z,some sh=>withV (opdA e s.chan) fun c=>selT C e l fun cs ss=>k ({ chan:=c,send:=none,zero:=z }::cs) (sh::ss)
  | _,_,_=>.fail
def opT(C:Ctx)(fin:Bool)(ro:List Nat)(q:Bool)(o:Oper)(e:Env)(k:Env->T):T :=
  let put (a:AV):T:=k (setD e o.dst a)
  match o.op with
  | .move x | .assign x=>withA (opdA e x) put
  | .pick c a b=>withV (opdA e c) fun v=>T.unB v fun t=>bif t then withA (opdA e a) put else withA (opdA e b) put
  | .binOp op t x y _=>withV (opdA e x) fun a=>withV (opdA e y) fun b=>binT C.P q op t x y a b fun v=>put (.val v)
  | .unOp op _ x=>withV (opdA e x) fun a=>match op,a with
    | .not,.bool b=>put (.val (.bool (!b)))
    | op,a=>.sem q (Op.unary op a) fun v=>put (.val v)
  | .nilCheck x=>match opdA e x with
    | some (.pp i j)=>put (.pp i j)
    | some (.val (.pointer p))=>.someA p fun a=>put (.val (.pointer (some a)))
    | _=>.fail
  | .fieldAddr s x f=>match offOf C.P s f,opdA e x with
    | some off,some (.pp i j)=>put (.pp i (j+off))
    | some off,some (.val (.pointer (some a)))=>put (.val (.pointer (some (a.add off))))
    | _,_=>.fail
  | .indexAddr t x i=>match C.P.underlying t,opdA e x,opdA e i with
    | some (.slice el),some (.val (.slice p n _)),some (.val (.int _ m))=>match sizeT C.P el with
      | some z=>.need (0<=m/\m<(n:Int)) (.someA p fun a=>put (.val (.pointer (some (a.add (m.toNat*z))))))
      | none=>.fail
    | some (.array n el),some (.val (.pointer (some a))),some (.val (.int _ m))=>match sizeT C.P el with
      | some z=>.need (0<=m/\m<(n:Int)) (put (.val (.pointer (some (a.add (m.toNat*z))))))
      | none=>.fail
    | _,_,_=>.fail
  | .load t x=>match opdA e x with
    | some (.pp i j)=>match privLoad C.P e i j t with
      | some v=>put (.val v)
      | none=>.fail
    | some (.val (.pointer (some a)))=>match isAggT C.P t,kindsOf C.P t with
      | true,some ks=>match Nat.beq (lenL ks) (C.P.cellsOf t) with
        | true=>T.loadL a ks 0 fun l=>put (.val (.agg l.toArray))
        | false=>.fail
      | false,some [kd]=>T.loadK kd a fun v=>put (.val v)
      | _,_=>.fail
    | _=>.fail
  | .store t a x=>withV (opdA e x) fun v=>match sizeT C.P t with
   | none=>.fail
   | some z=>match Nat.beq (lenL (cellsL v)) z with
    | true=>match opdA e a with
      | some (.pp i j)=>match memN ro i,Nat.ble (j+z) 4095,privCells e i j z with
        | false,true,some _=>onesT (cellsL v) (k (setD (setCells i j (cellsL v) e) o.dst (.val undef)))
        | _,_,_=>.fail
      | some (.val (.pointer (some a)))=>T.storeL a (cellsL v) 0 (k (setD e o.dst (.val undef)))
      | _=>.fail
    | false=>.fail
  | .alloc el=>match o.dst,zerosOf C.P el with
    | some d,some z=>match memN C.priv d with
      | true=>match memN ro d,Nat.ble (lenL (cellsL z)) 4095 with
        | false,true=>k ((d,.pp d 0)::setCells d 0 (cellsL z) (anew d e))
        | _,_=>.fail
      | false=>.new el z.cells fun r=>put (.val (.pointer (some ⟨r,0,none⟩)))
    | _,_=>.fail
  | .box el x=>withV (opdA e x) fun v=>match o.dst with
    | some d=>match memN C.priv d with
      | true=>match memN ro d,Nat.ble (lenL (cellsL v)) 4095 with
        | false,true=>k ((d,.pp d 0)::setCells d 0 (cellsL v) (anew d e))
        | _,_=>.fail
      | false=>.new el v.cells fun r=>put (.val (.pointer (some ⟨r,0,none⟩)))
    | none=>.fail
  | .extract x i=>match opdA e x with
    | some (.val (.tuple vs))=>match vs[i]? with
      | some v=>T.shaped C.P o.type v fun v=>put (.val v)
      | none=>.fail
    | _=>.fail
  | .build t ps=>withParts e ps.toList fun l=>match Nat.ble (C.P.cellsOf t) 64 with
    | true=>match buildV C.P t l with
      | some v=>put (.val v)
      | none=>.fail
    | false=>.sem q (Instr.build t l.toArray) fun v=>put (.val v)
  | .buildSlice t n ps=>withParts e ps.toList fun l=>.sem q (Instr.buildSlice t n l.toArray) fun v=>T.unS v fun a n c=>put (.val (.slice a n c))
  | .makeFunc fn fs cs=>withVs e fs.toList fun l=>withVs e cs.toList fun m=>put (.val (.func fn l.toArray m.toArray))
  | .makeInterface t x=>withV (opdA e x) fun v=>match C.P.underlying t with
    | some (.interface _)=>.fail
    | some _=>put (.val (.iface t v))
    | none=>.fail
  | .field t x f=>withV (opdA e x) fun v=>match C.P.underlying t,v with
    | some (.struct fs),.agg cs=>match fs[f]? with
      | some fd=>match isAggT C.P fd.type with
        | true=>put (.val (.agg (cs.extract fd.offset (fd.offset+C.P.cellsOf fd.type))))
        | false=>match C.P.underlying fd.type,cs[fd.offset]? with
          | some _,some v=>put (.val v)
          | _,_=>.fail
      | none=>.fail
    | _,_=>.fail
  | .index t x i=>withV (opdA e x) fun v=>withV (opdA e i) fun m=>match C.P.underlying t with
    | some .string=>.sem q (Instr.index t v m) fun v=>T.unI .u8 v fun n=>put (.val (.int .u8 n))
    | some (.array _ el)=>match C.P.underlying el with
      | some (.int k)=>.sem q (Instr.index t v m) fun v=>T.unI k v fun n=>put (.val (.int k n))
      | _=>.sem q (Instr.index t v m) fun v=>put (.val v)
    | _=>.sem q (Instr.index t v m) fun v=>put (.val v)
  | .range t x=>withV (opdA e x) fun v=>.sem q (Instr.range t v) fun v=>T.unP v fun a=>put (.val (.pointer a))
  | .next it str=>withV (opdA e it) fun v=>.sem q (Instr.next v str o.type) fun v=>T.unNext v fun v=>put (.val v)
  | .entry it=>withV (opdA e it) fun v=>.sem q (Instr.entry v) fun v=>T.unTup v fun l=>T.unShs [.cell .any,.cell .any] l fun l=>put (.val (.tuple l.toArray))
  | .convert a b x=>withV (opdA e x) fun v=>match C.P.underlying a,C.P.underlying b,v with
    | some _,some (.int k),.int _ n=>put (.val (.int k (k.wrap n)))
    | some _,some .string,.string s=>put (.val (.string s))
    | some _,some .string,v=>.sem q (convert a b v) fun v=>T.unStr v fun s=>put (.val (.string s))
    | some _,some (.slice _),v=>.sem q (convert a b v) fun v=>T.unS v fun a n c=>put (.val (.slice a n c))
    | _,_,v=>.sem q (convert a b v) fun v=>put (.val v)
  | .makeMap t r=>match r with
    | none=>.sem q (Instr.makeMap t none) fun v=>T.unM v fun a=>put (.val (.map a))
    | some x=>withV (opdA e x) fun n=>.sem q (Instr.makeMap t (some n)) fun v=>T.unM v fun a=>put (.val (.map a))
  | .makeChan t s=>withV (opdA e s) fun n=>.sem q (Instr.makeChan t n) fun v=>T.unC v fun a=>put (.val (.chan a))
  | .makeSlice t l c=>withV (opdA e l) fun l=>withV (opdA e c) fun c=>.sem q (Instr.makeSlice t l c) fun v=>T.unS v fun a n c=>put (.val (.slice a n c))
  | .lookup t m i ok=>withV (opdA e m) fun m=>withV (opdA e i) fun i=>match C.P.underlying t with
    | some (.map _ el)=>match shapeOf C.P el with
      | some sh=>.sem q (Instr.lookup t m i ok) fun v=>match ok with
        | true=>T.unTup v fun l=>T.unShs [sh,.cell .bool] l fun l=>put (.val (.tuple l.toArray))
        | false=>T.unSh sh v fun v=>put (.val v)
      | none=>.fail
    | _=>.fail
  | .mapEntry t m i=>withV (opdA e m) fun m=>withV (opdA e i) fun i=>.sem q (Instr.mapEntry t m i) fun v=>T.unTup v fun l=>T.unShs [.cell .any,.cell (.int .i64)] l fun l=>put (.val (.tuple l.toArray))
  | .entryStore t m i x=>withV (opdA e m) fun m=>withV (opdA e i) fun i=>withV (opdA e x) fun x=>.sem q (do Instr.entryStore t m i x;pure undef) fun _=>k (setD e o.dst (.val undef))
  | .mapUpdate t m i x | .insert t m i x=>withV (opdA e m) fun m=>withV (opdA e i) fun i=>withV (opdA e x) fun x=>.sem q (do Instr.mapUpdate t m i x;pure undef) fun _=>k (setD e o.dst (.val undef))
  | .slice t x lo hi mx=>withV (opdA e x) fun v =>
    let go (l h m:Option Value):T:=.sem q (Instr.sliceAt t v l h m) fun w=>T.unSlice v w fun w=>put (.val w)
    match lo,hi,mx with
    | none,none,none=>go none none none
    | some l,none,none=>withV (opdA e l) fun l=>go (some l) none none
    | none,some h,none=>withV (opdA e h) fun h=>go none (some h) none
    | some l,some h,none=>withV (opdA e l) fun l=>withV (opdA e h) fun h=>go (some l) (some h) none
    | none,some h,some m=>withV (opdA e h) fun h=>withV (opdA e m) fun m=>go none (some h) (some m)
    | some l,some h,some m=>withV (opdA e l) fun l=>withV (opdA e h) fun h=>withV (opdA e m) fun m=>go (some l) (some h) (some m)
    | _,none,some _=>.fail
  | .call c=>withVs e c.args.toList fun args=>match c.callee with
    | .builtin .len=>match args with
      | [.slice _ n _]=>match lenOk C.P c.argTypes with
        | true=>put (.val (.int .i64 n))
        | false=>.fail
      | [v]=>.sem q (Builtin.len_ c.argTypes o.type #[v]) fun v=>T.unI .i64 v fun n=>put (.val (.int .i64 n))
      | _=>.fail
    | .builtin .max=>match args with
      | [.int k x,.int _ y]=>put (.val (.int k (if y>x then y else x)))
      | _=>.fail
    | .builtin .min=>match args with
      | [.int k x,.int _ y]=>put (.val (.int k (if y<x then y else x)))
      | _=>.fail
    | .builtin .append=>.sem q (Builtin.append_ c.argTypes o.type args.toArray) fun v=>T.unS v fun a n c=>put (.val (.slice a n c))
    | .builtin .close=>.sem q (Builtin.close_ c.argTypes o.type args.toArray) fun v=>put (.val v)
    | .builtin .copy=>.sem q (Builtin.copy_ c.argTypes o.type args.toArray) fun v=>put (.val v)
    | .builtin .delete=>.sem q (Builtin.delete_ c.argTypes o.type args.toArray) fun v=>put (.val v)
    | .builtin .clear=>.sem q (Builtin.clear_ c.argTypes o.type args.toArray) fun v=>put (.val v)
    | .value (.func f)=>match C.P.funcs[f]? with
      | some fn=>match shapesOf C.P fn.resultTypes.toList with
        | some ss=>.call q f args.toArray fun v=>T.unRes ss v fun v=>put (.val v)
        | none=>.fail
      | none=>.fail
    | .value x=>withV (opdA e x) fun fv=>match C.P.underlying o.type with
      | some (.tuple ts)=>match shapesOf C.P ts.toList with
        | some ss=>.callv q fv args.toArray fun v=>T.unRes ss v fun v=>put (.val v)
        | none=>.fail
      | _=>match shapesOf C.P [o.type] with
        | some ss=>.callv q fv args.toArray fun v=>T.unRes ss v fun v=>put (.val v)
        | none=>.fail
    | .invoke x name=>withV (opdA e x) fun rv=>match C.P.underlying o.type with
      | some (.tuple ts)=>match shapesOf C.P ts.toList with
        | some ss=>.callv q (.func (.method name) #[rv] #[]) args.toArray fun v=>T.unRes ss v fun v=>put (.val v)
        | none=>.fail
      | _=>match shapesOf C.P [o.type] with
        | some ss=>.callv q (.func (.method name) #[rv] #[]) args.toArray fun v=>T.unRes ss v fun v=>put (.val v)
        | none=>.fail
    | _=>.fail
  | .go c=>withVs e c.args.toList fun args=>match c.callee with
    | .value x=>withV (opdA e x) fun fv=>match fnOk fv with
      | true=>.spawn fv args.toArray (k (setD e o.dst (.val undef)))
      | false=>.fail
    | _=>.fail
  | .send ch x=>withV (opdA e ch) fun c=>withV (opdA e x) fun v=>.comm fin #[{ chan:=c,send:=some v,zero:=.tuple #[] }] .send fun v=>put (.val v)
  | .recv t ch ok=>withV (opdA e ch) fun c=>match C.P.underlying t with
    | some (.chan _ el)=>match zerosOf C.P el,shapeOf C.P el with
      | some z,some sh=>.comm fin #[{ chan:=c,send:=none,zero:=z }] (.recv ok) fun v=>match ok with
        | true=>T.unTup v fun l=>T.unShs [sh,.cell .bool] l fun l=>put (.val (.tuple l.toArray))
        | false=>T.unSh sh v fun v=>put (.val v)
      | _,_=>.fail
    | _=>.fail
  | .select cases blocking=>match blocking with
    | true=>selT C e cases.toList fun l ss=>.comm fin l.toArray .select fun v=>T.unTup v fun l=>T.unShs (.cell (.int .i64)::.cell .bool::ss) l fun l=>put (.val (.tuple l.toArray))
    | false=>.fail
  | _=>.fail
def guardT(C:Ctx)(fin:Bool)(ro:List Nat)(q:Bool)(ops:Array Oper)(o:Oper)(e:Env)(k:Env->T):T :=
 match o.guard with
 | none=>opT C fin ro q o e k
 | some (j,want)=>match (ops[j]?).bind (·.dst) with
  | some d=>match slotA e d with
   | some (.val (.bool b)) =>
    bif b then (bif want then opT C fin ro q o ((d,.val (.bool true))::e) k else k (setD ((d,.val (.bool true))::e) o.dst (.val undef)))
    else (bif want then k (setD ((d,.val (.bool false))::e) o.dst (.val undef)) else opT C fin ro q o ((d,.val (.bool false))::e) k)
   | some (.val (.tuple _))=>k (setD e o.dst (.val undef))
   | _=>.fail
  | none=>.fail
def opsT(C:Ctx)(fin:Bool)(ro:List Nat)(q:Bool)(ops:Array Oper):List Nat->Env->(Env->T)->T
 | [],e,k=>k e
 | i::rest,e,k=>match ops[i]? with
  | some o=>guardT C (match rest with | []=>fin|_::_=>false) ro q ops o e fun e=>opsT C fin ro q ops rest e k
  | none=>.fail
def upto:Nat->Nat->List Nat
 | _,0=>[]
 | i,n+1=>i::upto (i+1) n
def collect(e:Env):List (Nat×Kind)->Option (List Value)
 | []=>some []
 | (s,_)::l=>match e.get s,collect e l with
  | some (.val v),some vs=>some (v::vs)
  | _,_=>none
def withC(o:Option (List Value))(k:List Value->T):T:=match o with|some l=>k l|none=>.fail
def bindS:List (Nat×Kind)->List Value->Env->(Env->T)->T
 | [],vs,e,k=>T.unNil vs (k e)
 | (s,kd)::l,vs,e,k=>T.pop kd vs fun v vs=>bindS l vs ((s,.val v)::e) k
def dsts:Code->List Nat
 | .region _ ops _=>go ops.toList
 | .seq a b | .cond _ a b=>appL (dsts a) (dsts b)
 | .block _ c | .loop c | .scope c=>dsts c
 | .rangeFunc _ ps a b=>appL ps.toList (appL (dsts a) (dsts b))
 | _=>[]
where go:List Oper->List Nat
 | []=>[]
 | o::l=>match o.dst with
  | some d=>d::go l
  | none=>go l
def staysP(W ro:List Nat)(s:Nat):Bool :=
 match isPriv s with
 | true=>memN ro (blockOf s)&&!memN W (blockOf s)
 | false=>!memN W s
def stays(W ro:List Nat)(e:Env):Env:=Env.keep (staysP W ro) (Env.scrap (memN W) e)
def freeOf(ro:List Nat):List (Nat×Kind)->Bool
 | []=>true
 | (s,_)::l=>!(isPriv s&&memN ro (blockOf s))&&freeOf ro l
def firstReg:Code->Nat
 | .region id _ _=>id
 | .seq a _=>firstReg a
 | .block _ c | .loop c | .scope c=>firstReg c
 | .cond c _ _=>match c with
  | .tmp t=>2000000+t
  | _=>1000000
 | _=>1000000
def LExit.isExit(e:LExit)(id:Nat):Bool:=match e with | .exit j=>Nat.beq j id|_=>false
def leafT(id:Option Nat)(e:Env)(L:List (Nat×Kind))(x:LExit):T :=
 withC (collect e L) fun vs=>match x with
  | .fall=>.leaf (.again vs)
  | .ret=>.leaf (.retn vs)
  | .exit j=>match id with
   | some i=>match Nat.beq j i with
    | true=>.leaf (.brk vs)
    | false=>.leaf (.out j vs)
   | none=>.leaf (.out j vs)
def ppsOk:List Nat->Env->Bool
 | [],_=>true
 | d::l,e=>(match slotA e d with|some (.pp k o)=>Nat.beq k d&&Nat.beq o 0|_=>false)&&ppsOk l e
def addPP:List Nat->Env->Env
 | [],e=>e
 | d::l,e=>(d,.pp d 0)::addPP l e
def ppsT(ds:List Nat)(e:Env)(x:LExit)(t:T):T :=
 match x with
 | .fall=>match ppsOk ds e with
  | true=>t
  | false=>.fail
 | _=>t
def outT(k:Nat->List Value->T):List Nat->Nat->List Value->T
 | [],_,_=>.fail
 | o::os,j,vs=>bif Nat.beq j o then k o vs else outT k os j vs
structure PE where
 i:Nat
 o:Oper
 d:Nat
 a:AV
def penvE:List PE->Env->Env
 | [],e=>e
 | p::l,e=>(p.d,p.a)::penvE l e
def predsL:List Edge->List Nat
 | []=>[]
 | e::l=>match Region.binds .any e with
  | true=>e.on::predsL l
  | false=>predsL l
def predsOf(o:Oper):List Nat:=predsL o.after.toList
def tmpsL:List Operand->List Nat
 | []=>[]
 | .tmp t::l=>t::tmpsL l
 | _::l=>tmpsL l
def looksL(ops:Array Oper)(o:Oper):List Nat :=
 match o.guard with
 | none=>tmpsL o.op.operands.toList
 | some (j,_)=>match (ops[j]?).bind (·.dst) with
  | some d=>d::tmpsL o.op.operands.toList
  | none=>tmpsL o.op.operands.toList
def isIntB(a b:Option AV):Bool :=
 match a,b with
 | some (.val (.int _ _)),some (.val (.int _ _))=>true
 | some (.val (.bool _)),some (.val (.bool _))=>true
 | _,_=>false
def isFloat(C:Ctx)(E:Env)(o:Oper):Bool :=
 match o.op with
 | .move _ | .pick _ _ _ | .nilCheck _ | .fieldAddr _ _ _ | .indexAddr _ _ _ | .load _ _ | .extract _ _ | .makeFunc _ _ _=>true
 | .binOp _ _ x y _=>isIntB (opdA E x) (opdA E y)
 | .unOp .not _ x=>match opdA E x with|some (.val (.bool _))=>true|_=>false
 | .field _ _ _ | .makeInterface _ _=>true
 | .build t _=>Nat.ble (C.P.cellsOf t) 64
 | .convert a b x=>match C.P.underlying a,C.P.underlying b,opdA E x with
  | some _,some (.int _),some (.val (.int _ _))=>true
  | _,_,_=>false
 | .call c=>match c.callee,withL E c.args.toList with
  | .builtin .len,[some (.val (.slice _ _ _))]=>lenOk C.P c.argTypes
  | .builtin .max,[some (.val (.int _ _)),some (.val (.int _ _))]=>true
  | .builtin .min,[some (.val (.int _ _)),some (.val (.int _ _))]=>true
  | _,_=>false
 | _=>false
where
 withL (E:Env):List Operand->List (Option AV)
  | []=>[]
  | x::l=>opdA E x::withL E l
def allMem:List Nat->List Nat->Bool
 | [],_=>true
 | i::l,m=>memN m i&&allMem l m
def idxL:List PE->List Nat
 | []=>[]
 | p::l=>p.i::idxL l
def dstL:List PE->List Nat
 | []=>[]
 | p::l=>p.d::dstL l
def seenOk(lk pr:List Nat):List PE->Bool
 | []=>true
 | p::l=>(!memN lk p.d||memN pr p.i)&&seenOk lk pr l
def unseen(ops:Array Oper)(d:Nat):List PE->Bool
 | []=>true
 | p::l=>!memN (looksL ops p.o) d&&unseen ops d l
inductive Pick where
 | none
 | some (i:Nat) (o:Oper) (d:Nat)
def isReady(ops:Array Oper)(done:List Nat)(i:Nat):Bool :=
 match ops[i]? with
 | some o=>!memN done i&&allMem (predsOf o) done
 | none=>false
def pickF(C:Ctx)(ops:Array Oper)(E:Env)(done:List Nat):List Nat->Pick
 | []=>.none
 | i::l=>match ops[i]?,isReady ops done i with
  | some o,true=>match isFloat C E o,o.dst with
   | true,some d=>.some i o d
   | _,_=>pickF C ops E done l
  | _,_=>pickF C ops E done l
def readyL(ops:Array Oper)(done:List Nat):List Nat->List Nat
 | []=>[]
 | i::l=>match isReady ops done i with
  | true=>i::readyL ops done l
  | false=>readyL ops done l
def splitP(pr:List Nat):List PE->List PE×List PE
 | []=>([],[])
 | p::l=>match memN pr p.i,splitP pr l with
  | true,(a,b)=>(p::a,b)
  | false,(a,b)=>(a,p::b)
def headT(e:Env)(d:Nat)(k:AV->T):T :=
 match e with
 | (d',a)::_=>match Nat.beq d' d,a with
  | true,.val v=>k (.val v)
  | true,.pp n j=>k (.pp n j)
  | _,_=>.fail
 | []=>.fail
def isPP(a:AV)(d:Nat):Bool:=match a with | .pp k _=>Nat.beq k d|_=>false
def okRest(dst:Option Tmp)(e:Env):List PE->Bool
 | []=>true
 | p::l=>(match e.get p.d with|some _=>false|none=>true)&&(match dst with|some d=>!Nat.beq d p.d&&!isPP p.a d|none=>true)&&okRest dst e l
def rechk(C:Ctx)(ro:List Nat)(ops:Array Oper)(E:Env)(k:T):List PE->T
 | []=>k
 | p::l=>bif isFloat C E p.o then guardT C false ro false ops p.o E fun e'=>headT e' p.d fun a=>.need (a=p.a) (rechk C ro ops E k l) else .fail
def bothL:List T->T
 | []=>.fail
 | [t]=>t
 | t::ts=>.both t (bothL ts)
def mapT(f:Nat->T):List Nat->List T
 | []=>[]
 | i::l=>f i::mapT f l
def isGuardL(i:Nat):List Oper->Bool
 | []=>false
 | o::l=>match o.guard with
  | some (j,_)=>match Nat.beq j i with
   | true=>true
   | false=>isGuardL i l
  | none=>isGuardL i l
def splitA(g:Bool)(a:AV)(k:AV->T):T :=
 match g,a with
 | true,.val (.bool b)=>bif b then k (.val (.bool true)) else k (.val (.bool false))
 | _,a=>k a
def drawT(C:Ctx)(ro:List Nat)(ops:Array Oper)(all:List Nat):Nat->List Nat->Env->List PE->(Env->T)->T
 | 0,_,_,_,_=>.fail
 | n+1,L,e,pend,k =>
  match pickF C ops (penvE pend e) (appL (idxL pend) L) all with
  | .some i o d=>match seenOk (looksL ops o) (predsOf o) pend&&unseen ops d pend&&!memN (dstL pend) d&&!memN (looksL ops o) d with
   | true=>guardT C false ro false ops o (penvE pend e) fun e'=>headT e' d fun a=>splitA (isGuardL i ops.toList) a fun a=>drawT C ro ops all n L (Env.keep (fun s=>!Nat.beq s d) e) (⟨i,o,d,a⟩::pend) k
   | false=>.fail
  | .none=>match readyL ops (appL (idxL pend) L) all with
   | []=>match allMem all (appL (idxL pend) L) with
    | true=>k (penvE pend e)
    | false=>.fail
   | hs=>bothL (mapT (fun j=>match ops[j]? with
    | some o=>match splitP (predsOf o) pend with
     | (conf,rest)=>guardT C false ro false ops o (penvE conf e) fun e'=>match okRest o.dst e' rest with
      | true=>rechk C ro ops (penvE rest e') (drawT C ro ops all n (j::appL (idxL conf) L) e' rest k) rest
      | false=>.fail
    | none=>.fail) hs)
def backL(i:Nat):List Nat->Bool
 | []=>true
 | j::l=>!Nat.ble i j&&backL i l
def edgesOk:Nat->List Oper->Bool
 | _,[]=>true
 | i,o::l=>backL i (predsOf o)&&edgesOk (i+1) l
/-! ### Trees of code -/
def tree(C:Ctx):Bool->List Nat->Code->Env->(LExit->Env->T)->T
 | _,_,.skip,e,k=>k .fall e
 | fin,ro,.region _ ops draw,e,k=>match draw with
  | false=>opsT C fin ro false ops (upto 0 ops.size) e (k .fall)
  | true=>match C.P.follows .mixedOrders,edgesOk 0 ops.toList with
   | true,true=>drawT C ro ops (upto 0 ops.size) (ops.size+ops.size+1) [] e [] (k .fall)
   | _,_=>.fail
 | fin,ro,.seq a b,e,k=>match findNote (firstReg b) C.joins with
  | some n=>match freeOf (appL n.ro ro) n.slots with
   | true =>
    let e₁:=stays (dsts a) (appL n.ro ro) e
    .blk (tree C false (appL n.ro ro) a e fun x e'=>ppsT n.pps e' x (leafT none e' n.slots x)) (fun vs=>bindS n.slots vs e₁ fun e'=>tree C fin ro b (addPP n.pps e') k) (fun vs=>bindS n.slots vs e₁ (k .ret))
     (outT (fun j vs=>bindS n.slots vs e₁ (k (.exit j))) n.outs)
   | false=>.fail
  | none=>tree C false ro a e fun x e'=>match x with
   | .fall=>tree C fin ro b e' k
   | x=>k x e'
 | fin,ro,.cond c a b,e,k=>withV (opdA e c) fun v=>T.unB v fun t=>bif t then tree C fin ro a e k else tree C fin ro b e k
 | _,ro,.block id c,e,k=>match c with
  | .loop body=>match findNote id C.loops with
   | some n=>match freeOf (appL n.ro ro) n.slots with
    | true=>withC (collect e n.slots) fun init =>
     let e₁:=stays (dsts body) (appL n.ro ro) e
     .loop init (fun vs=>bindS n.slots vs e₁ fun e'=>tree C false (appL n.ro ro) body e' fun x e''=>leafT (some id) e'' n.slots x)
      (fun vs=>bindS n.slots vs e₁ (k .fall)) (fun vs=>bindS n.slots vs e₁ (k .ret)) (outT (fun j vs=>bindS n.slots vs e₁ (k (.exit j))) n.outs)
    | false=>.fail
   | none=>.fail
  | c=>tree C false ro c e fun x e'=>match x with
   | .exit j=>match Nat.beq j id with
    | true=>k .fall e'
    | false=>k (.exit j) e'
   | x=>k x e'
 | _,ro,.scope c,e,k=>tree C false ro c e k
 | _,_,.label _,e,k=>k .fall e
 | _,_,.exit id,e,k=>k (.exit id) e
 | _,_,.ret,e,k=>k .ret e
 | _,_,_,_,_=>.fail
/-! ### Loops over functions, on the spine of a body -/
def hasRF:Code->Bool
 | .seq a b=>hasRF a||hasRF b
 | .cond _ a b=>hasRF a||hasRF b
 | .block _ c | .scope c | .loop c=>hasRF c
 | .rangeFunc _ _ _ _=>true
 | _=>false
def bindPs:List Nat->List Value->Env->(Env->T)->T
 | [],vs,e,k=>T.unNil vs (k e)
 | p::ps,vs,e,k=>T.popV vs fun v vs=>bindPs ps vs ((p,.val v)::e) k
def allPriv:List (Nat×Kind)->Bool
 | []=>true
 | (s,_)::l=>isPriv s&&allPriv l
def wrOf(ps:Array Tmp)(asq bd:Code):List Nat:=appL ps.toList (appL (dsts asq) (dsts bd))
def rfT(C:Ctx)(id:Nat)(f:Operand)(ps:Array Tmp)(asq bd:Code)(e:Env)(k:LExit->Env->T):T :=
 match findNote id C.loops with
 | some n=>match allPriv n.slots&&freeOf (appL n.ro []) n.slots with
  | true=>withV (opdA e f) fun fv=>withC (collect e n.slots) fun init =>
   let e₁:=stays (wrOf ps asq bd) (appL n.ro []) e
   .each fv init (fun xs vs=>T.unShs n.ps xs fun xs=>bindS n.slots vs e₁ fun e'=>bindPs ps.toList xs e' fun e'=>tree C false (appL n.ro []) asq e' fun x e''=>match x with
     | .fall=>tree C false (appL n.ro []) bd e'' fun x e3=>leafT (some id) e3 n.slots x
     | _=>.fail)
    (fun vs=>bindS n.slots vs e₁ (k .fall)) (fun vs=>bindS n.slots vs e₁ (k .fall)) (fun vs=>bindS n.slots vs e₁ (k .ret)) (outT (fun j vs=>bindS n.slots vs e₁ (k (.exit j))) n.outs)
  | false=>.fail
 | none=>.fail
def spine(C:Ctx)(fin:Bool):Code->Env->(LExit->Env->T)->T
 | .seq a b,e,k=>match hasRF (.seq a b) with
  | false=>tree C fin [] (.seq a b) e k
  | true=>match hasRF a,findNote (firstReg b) C.joins with
   | false,some n=>match freeOf (appL n.ro []) n.slots with
    | true =>
     let e₁:=stays (dsts a) (appL n.ro []) e
     .blk (tree C false (appL n.ro []) a e fun x e'=>ppsT n.pps e' x (leafT none e' n.slots x)) (fun vs=>bindS n.slots vs e₁ fun e'=>spine C false b (addPP n.pps e') k) (fun vs=>bindS n.slots vs e₁ (k .ret))
      (outT (fun j vs=>bindS n.slots vs e₁ (k (.exit j))) n.outs)
    | false=>.fail
   | _,_=>spine C false a e fun x e'=>match x with
    | .fall=>spine C false b e' k
    | x=>k x e'
 | .block id (.rangeFunc f ps asq bd),e,k=>rfT C id f ps asq bd e k
 | .block id (.loop body),e,k=>match hasRF body with
  | false=>tree C fin [] (.block id (.loop body)) e k
  | true=>match findNote id C.loops with
   | some n=>withC (collect e n.slots) fun init =>
    let e₁:=stays (dsts body) [] e
    .loop init (fun vs=>bindS n.slots vs e₁ fun e'=>spine C false body e' fun x e''=>leafT (some id) e'' n.slots x)
     (fun vs=>bindS n.slots vs e₁ (k .fall)) (fun vs=>bindS n.slots vs e₁ (k .ret)) (outT (fun j vs=>bindS n.slots vs e₁ (k (.exit j))) n.outs)
   | none=>.fail
 | .block id (.seq a b),e,k=>match hasRF (.seq a b) with
  | false=>tree C fin [] (.block id (.seq a b)) e k
  | true=>spine C false (.seq a b) e fun x e'=>match x with
   | .exit j=>match Nat.beq j id with
    | true=>k .fall e'
    | false=>k (.exit j) e'
   | x=>k x e'
 | .scope c,e,k=>match hasRF c with
  | false=>tree C fin [] (.scope c) e k
  | true=>spine C false c e k
 | .cond c a b,e,k=>match hasRF (.cond c a b) with
  | false=>tree C fin [] (.cond c a b) e k
  | true=>withV (opdA e c) fun v=>T.unB v fun t=>bif t then spine C false a e k else spine C false b e k
 | c,e,k=>tree C fin [] c e k
def argsEnv:Nat->List Value->Env
 | _,[]=>[]
 | i,v::vs=>(i,.val v)::argsEnv (i+1) vs
def resT(C:Ctx)(e:Env):List ResultVar->(List Value->T)->T
 | [],k=>k []
 | .tmp t::rs,k=>withV (slotA e t) fun v=>resT C e rs fun l=>k (v::l)
 | .cell a t::rs,k=>match slotA e a with
  | some (.pp i j)=>match privLoad C.P e i j t with
   | some v=>resT C e rs fun l=>k (v::l)
   | none=>.fail
  | some (.val (.pointer (some b)))=>match isAggT C.P t,kindsOf C.P t with
   | true,some ks=>match Nat.beq (lenL ks) (C.P.cellsOf t) with
    | true=>T.loadL b ks 0 fun c=>resT C e rs fun l=>k (.agg c.toArray::l)
    | false=>.fail
   | false,some [kd]=>T.loadK kd b fun v=>resT C e rs fun l=>k (v::l)
   | _,_=>.fail
  | _=>.fail
def allBelow(n:Nat):List Nat->Bool
 | []=>true
 | d::l=>!Nat.ble n d&&allBelow n l
def finOf(C:Ctx)(f:Func):Bool:=match C.kd,f.results.toList with | .deferred,[]=>true|_,_=>false
def ftree(C:Ctx)(f:Func)(args:List Value):T :=
 match f.body,Nat.ble (lenL args) 4096&&(Nat.ble f.ntmps 4096&&allBelow f.ntmps (match f.body with|some c=>dsts c|none=>[])) with
 | some c,true=>spine C (finOf C f) c (argsEnv 0 args) fun x e=>match x with
  | .exit _=>.fail
  | _=>resT C e f.results.toList fun l=>match l with
   | [v]=>.leaf (.ret v)
   | l=>.leaf (.ret (.tuple l.toArray))
 | _,_=>.fail
end
section
section
variable {P:Program} {main:Bool} {R:Goroutine->LH->Prop}
structure FI where
 fn:FuncId
 kd:CallKind
 ok:kd≠.early
def mkF(fn:FI)(ds:List Deferred)(ro:Option Nat)(tmps:Array Value)(todo:List Item):Frame :=
 { fn:=fn.fn,tmps,todo,defers:=ds,mode:=.run,kind:=fn.kd,roundOf:=ro }
theorem step_pure(hR:LClosed P main R){fr:Frame}{cs:List Frame}{g':Goroutine}{h:LH}(hs:∀ w,stepG P main (G fr cs) w=.go g' w #[])(h':R g' h):R (G fr cs) h:=by
 refine hR.step fr cs h (fun g₂ h₂=>g₂=g'/\h₂=h) ?_ ?_
 ·intro w hf;exact⟨g',w,#[],h.get,hs w,Tr.refl hf,by simp,rfl,rfl⟩
 ·rintro _ _ ⟨rfl,rfl⟩;exact h'
theorem mem_push_evs{P:Program}{fn:FuncId}{es:Array Event}{h:Cells}{n n':Nat}(hes:∀ e∈es,EvOk h n n' e):∀ e∈seen P fn es,EvOk h n n' e :=
 fun e he=>hes e (mem_seen he)
def notDefer(o:Oper):Bool:=match o.op with | .defer _=>false|_=>true
theorem lstep_apply{fr:Frame}{cs:List Frame}{h:LH}{s:Sem Next}(hat:AtOp fr)(hstep:∀ w,stepG P main (G fr cs) w=stepG.apply P true fr cs none s w)
 (hs:Sem.lwp P s (fun nx h'=>Nx P R fr cs { h with get:=h' } nx) (fun _ _=>False) h.get):LStep P main (G fr cs) h R:=by
  intro w hf;obtain⟨hm,⟨ops,i,rest,k,htodo⟩,hk⟩:=hat;obtain⟨w',h',es',t,hes,hq⟩:=lwp_sound P s _ _ h.get w #[] hf hs;rcases hq with⟨nx,hrun,hN⟩|⟨e,hrun,hE⟩
  · rw[Array.empty_append]at hrun
    have hrun1:(s.runT P w #[]).1=.ok nx w':=by rw[hrun]
    have hrun2:Sem.events P s w #[]=es':=by show (s.runT P w #[]).2=es';rw[hrun]
    simp only[Sem.runT_fst]at hrun1;have hev:=mem_push_evs (P:=P) (fn:=fr.fn) hes;have hk':(fr.kind==CallKind.early)=false:=by simpa using hk
    cases nx<;>simp only[Nx]at hN<;>first
      | exact hN.elim
      | (refine⟨_,w',seen P fr.fn es',h',?_,t,hev,hN⟩
         rw[hstep w];simp[stepG.apply,hrun1,hrun2,hk',GStep.after,G,htodo])
  · exact hE.elim
theorem mkF_at{fn:FI}{ds:List Deferred}{ro:Option Nat}{tmps:Array Value}{ops:Array Oper}{i:Nat}{rest:List Nat}{k:List Item} :
  AtOp (mkF fn ds ro tmps (.inRegion ops (i::rest)::k)):=⟨rfl,⟨ops,i,rest,k,rfl⟩,fn.ok⟩
theorem step_op(hR:LClosed P main R){fn:FI}{ds:List Deferred}{ro:Option Nat}{tmps:Array Value}{cs:List Frame}{h:LH}{ops:Array Oper}{i:Nat}{rest:List Nat}{k:List Item}{o:Oper}
 (ho:ops[i]?=some o)(hw:Region.wanted o (yielded ops tmps)=true)(hd:notDefer o=true)
 (hs:Sem.lwp P (execOp (mkF fn ds ro tmps (.inRegion ops (i::rest)::k)).eval o) (fun nx h'=>Nx P R (mkF fn ds ro tmps (.inRegion ops (i::rest)::k)) cs { h with get:=h' } nx) (fun _ _=>False) h.get) :
  R (G (mkF fn ds ro tmps (.inRegion ops (i::rest)::k)) cs) h:=by
 refine hR.step _ cs h R (lstep_apply mkF_at ?_ hs) (fun _ _ h=>h);intro w;unfold notDefer at hd;cases ro with
 | none=>simp[G,mkF,stepG,stepG.exec,stepG.oper,Frame.oper?,ho,hw]
 | some l =>
  cases hop:o.op<;>rw[hop]at hd<;>first|(cases hd;done)|simp[G,mkF,stepG,stepG.exec,stepG.oper,Frame.oper?,ho,hw,hop]
theorem stepG_up{fn:FI}{ds:List Deferred}{ro:Option Nat}{tmps:Array Value}{cs:List Frame}{ops:Array Oper}{i:Nat}{rest:List Nat}{k:List Item}{o:Oper}
 (ho:ops[i]?=some o)(hw:Region.wanted o (yielded ops tmps)=true)(hd:notDefer o=true)(w:World) :
  stepG P main (G (mkF fn ds ro tmps (.inRegion ops (i::rest)::k)) cs) w=stepG.apply P true (mkF fn ds ro tmps (.inRegion ops (i::rest)::k)) cs none (execOp (mkF fn ds ro tmps (.inRegion ops (i::rest)::k)).eval o) w:=by
 unfold notDefer at hd;cases ro with
 | none=>simp[G,mkF,stepG,stepG.exec,stepG.oper,Frame.oper?,ho,hw]
 | some l =>
  cases hop:o.op<;>rw[hop]at hd<;>first|(cases hd;done)|simp[G,mkF,stepG,stepG.exec,stepG.oper,Frame.oper?,ho,hw,hop]
theorem step_skipped(hR:LClosed P main R){fn:FI}{ds:List Deferred}{ro:Option Nat}{tmps:Array Value}{cs:List Frame}{h:LH}{ops:Array Oper}{i:Nat}{rest:List Nat}{k:List Item}{o:Oper}
 (ho:ops[i]?=some o)(hw:Region.wanted o (yielded ops tmps)=false)
 (hn:R (G ((mkF fn ds ro tmps (.inRegion ops (i::rest)::k)).finish undef) cs) h) :
  R (G (mkF fn ds ro tmps (.inRegion ops (i::rest)::k)) cs) h:=by
 refine step_pure hR (fun w=>?_) hn;simp[G,mkF,stepG,stepG.exec,ho,hw]
def putD(tmps:Array Value)(dst:Option Tmp)(v:Value):Array Value:=match dst with|some d=>tmps.setIfInBounds d v|none=>tmps
theorem finish_mkF{fn:FI}{ds:List Deferred}{ro:Option Nat}{tmps:Array Value}{ops:Array Oper}{i:Nat}{rest:List Nat}{k:List Item}{o:Oper}(ho:ops[i]?=some o)(v:Value) :
  (mkF fn ds ro tmps (.inRegion ops (i::rest)::k)).finish v=mkF fn ds ro (putD tmps o.dst v) (.inRegion ops rest::k):=by
 simp only[Frame.finish,mkF,ho,Option.bind_some,putD];cases o.dst<;>rfl
variable {fn:FI} {ds:List Deferred} {ro:Option Nat} {tmps:Array Value} {cs:List Frame} {h:LH} {k:List Item}
theorem mv_skip(hR:LClosed P main R)(hn:R (G (mkF fn ds ro tmps k) cs) h):R (G (mkF fn ds ro tmps (.code .skip::k)) cs) h :=
 step_pure hR (fun w=>by simp[G,mkF,stepG,stepG.exec]) hn
theorem mv_label(hR:LClosed P main R){l:Nat}(hn:R (G (mkF fn ds ro tmps k) cs) h):R (G (mkF fn ds ro tmps (.code (.label l)::k)) cs) h :=
 step_pure hR (fun w=>by simp[G,mkF,stepG,stepG.exec]) hn
theorem mv_inBlock(hR:LClosed P main R){id:Nat}(hn:R (G (mkF fn ds ro tmps k) cs) h):R (G (mkF fn ds ro tmps (.inBlock id::k)) cs) h :=
 step_pure hR (fun w=>by simp[G,mkF,stepG,stepG.exec]) hn
theorem mv_inScope(hR:LClosed P main R){c:Code}(hn:R (G (mkF fn ds ro tmps k) cs) h):R (G (mkF fn ds ro tmps (.inScope c::k)) cs) h :=
 step_pure hR (fun w=>by simp[G,mkF,stepG,stepG.exec]) hn
theorem mv_scope(hR:LClosed P main R){c:Code}(hn:R (G (mkF fn ds ro tmps (.code c::.inScope c::k)) cs) h):R (G (mkF fn ds ro tmps (.code (.scope c)::k)) cs) h :=
 step_pure hR (fun w=>by simp[G,mkF,stepG,stepG.exec]) hn
theorem mv_seq(hR:LClosed P main R){a b:Code}(hn:R (G (mkF fn ds ro tmps (.code a::.code b::k)) cs) h):R (G (mkF fn ds ro tmps (.code (.seq a b)::k)) cs) h :=
 step_pure hR (fun w=>by simp[G,mkF,stepG,stepG.exec]) hn
theorem mv_cond(hR:LClosed P main R){c:Operand}{a b:Code}{t:Bool}(he:(mkF fn ds ro tmps (.code (.cond c a b)::k)).eval c=.bool t)
 (hn:R (G (mkF fn ds ro tmps (.code (if t then a else b)::k)) cs) h):R (G (mkF fn ds ro tmps (.code (.cond c a b)::k)) cs) h :=
 step_pure hR (fun w=>by simp only[mkF]at he;simp[G,mkF,stepG,stepG.exec,he]) hn
theorem mv_block(hR:LClosed P main R){id:Nat}{c:Code}(hn:R (G (mkF fn ds ro tmps (.code c::.inBlock id::k)) cs) h):R (G (mkF fn ds ro tmps (.code (.block id c)::k)) cs) h :=
 step_pure hR (fun w=>by simp[G,mkF,stepG,stepG.exec]) hn
theorem mv_loop(hR:LClosed P main R){c:Code}(hn:R (G (mkF fn ds ro tmps (.code c::.inLoop c::k)) cs) h):R (G (mkF fn ds ro tmps (.code (.loop c)::k)) cs) h :=
 step_pure hR (fun w=>by simp[G,mkF,stepG,stepG.exec]) hn
theorem mv_inLoop(hR:LClosed P main R){c:Code}(hn:R (G (mkF fn ds ro tmps (.code c::.inLoop c::k)) cs) h):R (G (mkF fn ds ro tmps (.inLoop c::k)) cs) h :=
 step_pure hR (fun w=>by simp[G,mkF,stepG,stepG.exec]) hn
theorem mv_exit(hR:LClosed P main R){id:Nat}{k':List Item}(he:exitTo id k=some k')(hn:R (G (mkF fn ds ro tmps k') cs) h):R (G (mkF fn ds ro tmps (.code (.exit id)::k)) cs) h :=
 step_pure hR (fun w=>by simp[G,mkF,stepG,stepG.exec,he]) hn
theorem mv_region(hR:LClosed P main R){id:Nat}{ops:Array Oper}(hn:R (G (mkF fn ds ro tmps (.inRegion ops (List.range ops.size)::k)) cs) h):R (G (mkF fn ds ro tmps (.code (.region id ops false)::k)) cs) h :=
 step_pure hR (fun w=>by simp[G,mkF,stepG,stepG.exec]) hn
theorem mv_regionEnd(hR:LClosed P main R){ops:Array Oper}(hn:R (G (mkF fn ds ro tmps k) cs) h):R (G (mkF fn ds ro tmps (.inRegion ops []::k)) cs) h :=
 step_pure hR (fun w=>by simp[G,mkF,stepG,stepG.exec]) hn
theorem mv_ret(hR:LClosed P main R)(hn:R (G { mkF fn ds none tmps (.code .ret::k) with mode:=.returning } cs) h):R (G (mkF fn ds none tmps (.code .ret::k)) cs) h :=
 step_pure hR (fun w=>by simp[G,mkF,stepG,stepG.exec]) hn
theorem mv_end(hR:LClosed P main R)(hn:R (G { mkF fn ds none tmps [] with mode:=.returning } cs) h):R (G (mkF fn ds none tmps []) cs) h :=
 step_pure hR (fun w=>by simp[G,mkF,stepG,stepG.exec]) hn
end
end
section
theorem nbeq_true{i j:Nat}(h:Nat.beq i j=true):i=j:=Nat.eq_of_beq_eq_true h
theorem nbeq_false{i j:Nat}(h:Nat.beq i j=false):i≠j:=Nat.ne_of_beq_eq_false h
theorem nbeq_self(i:Nat):Nat.beq i i=true:=by simp
theorem nbeq_ne{i j:Nat}(h:i≠j):Nat.beq i j=false:=by
 cases hb:Nat.beq i j with
 | false=>rfl
 | true=>exact absurd (nbeq_true hb) h
theorem Env.get_cons(j:Nat)(a:AV)(e:Env)(i:Nat):Env.get ((j,a)::e) i=if j=i then some a else e.get i:=by
 rw[Env.get];cases hb:Nat.beq j i with
 | true=>rw[if_pos (nbeq_true hb)]
 | false=>rw[if_neg (nbeq_false hb)]
theorem Env.get_keep(p:Nat->Bool)(e:Env)(i:Nat):(Env.keep p e).get i=if p i=true then e.get i else none:=by
 induction e with
 | nil=>simp[Env.keep,Env.get]
 | cons x e ih =>
  obtain⟨j,a⟩:=x;rw[Env.keep];cases hp:p j with
  | true =>
   show Env.get ((j,a)::Env.keep p e) i=_;rw[Env.get_cons,Env.get_cons,ih];by_cases hj:j=i
   ·subst hj;rw[if_pos rfl,if_pos rfl,if_pos hp]
   ·rw[if_neg hj,if_neg hj]
  | false =>
   show Env.get (Env.keep p e) i=_;rw[ih,Env.get_cons];by_cases hj:j=i
   ·subst hj;simp[hp]
   ·rw[if_neg hj]
theorem Env.get_scrap(W:Nat->Bool)(e:Env)(i:Nat):(Env.scrap W e).get i=(e.get i).map (AV.scrap W):=by
 induction e with
 | nil=>rfl
 | cons x e ih =>
  obtain⟨j,a⟩:=x;rw[Env.scrap,Env.get_cons,Env.get_cons,ih];by_cases hj:j=i
  ·rw[if_pos hj,if_pos hj];rfl
  ·rw[if_neg hj,if_neg hj]
theorem memN_iff{l:List Nat}{i:Nat}:memN l i=true↔i∈l:=by
 induction l with
 | nil=>simp[memN]
 | cons j l ih =>
  rw[memN];cases hb:Nat.beq j i with
  | true=>simp[nbeq_true hb]
  | false =>
   have:=nbeq_false hb;show memN l i=true↔_;rw[ih,List.mem_cons];exact⟨.inr,fun h=>h.resolve_left (Ne.symm this)⟩
theorem memN_false{l:List Nat}{i:Nat}:memN l i=false↔i∉l:=by
 rw[<- memN_iff];simp
theorem appL_eq{α:Type}(l m:List α):appL l m=l++m:=by
 induction l with
 | nil=>rfl
 | cons a l ih=>rw[appL,ih];rfl
theorem lenL_eq{α:Type}(l:List α):lenL l=l.length:=by
 induction l with
 | nil=>rfl
 | cons a l ih=>rw[lenL,ih];rfl
theorem isPriv_iff{s:Nat}:isPriv s=true↔4096<=s:=by unfold isPriv;rw[Nat.ble_eq]
theorem isPriv_false{s:Nat}:isPriv s=false↔s<4096:=by
 cases h:isPriv s with
 | true=>have:=isPriv_iff.1 h;simp;omega
 | false =>
  simp;have:¬ 4096<=s:=fun h'=>by rw[isPriv_iff.2 h']at h;cases h
  omega
theorem blockOf_pkey{k j:Nat}(hj:j<4096):blockOf (pkey k j)=k:=by unfold blockOf pkey;omega
theorem mod_pkey{k j:Nat}(hj:j<4096):pkey k j%4096=j:=by unfold pkey;omega
theorem pkey_ge{k j:Nat}:4096<=pkey k j:=by unfold pkey;omega
theorem pkey_of{s:Nat}(h:4096<=s):s=pkey (blockOf s) (s%4096):=by unfold pkey blockOf;omega
def conc(σ:Nat->Nat):AV->Value
 | .val v=>v
 | .pp k off=>.pointer (some ⟨σ k,off,none⟩)
 | .bad=>undef
structure Sim(σ:Nat->Nat)(ro:List Nat)(PB:Nat->Prop)(e:Env)(tmps:Array Value)(hp:Cells):Prop where
 slot:∀ i a,i<4096->e.get i=some a->a≠.bad->tmps[i]?=some (conc σ a)
 cell:∀ s v,4096<=s->e.get s=some (.val v)->∃ c el,hp (σ (blockOf s))=some (true,.cells c el (0,0))/\c[s%4096]?=some v
 only:∀ s a,4096<=s->e.get s=some a->∃ v,a=.val v
 inj:∀ s s' a a',4096<=s->4096<=s'->e.get s=some a->e.get s'=some a'->σ (blockOf s)=σ (blockOf s')->blockOf s=blockOf s'
 prot:∀ s a,4096<=s->e.get s=some a->blockOf s∉ro->¬ PB (σ (blockOf s))
 cover:∀ s a,4096<=s->e.get s=some a->blockOf s∈ro->PB (σ (blockOf s))
theorem slotA_some{e:Env}{t:Nat}{a:AV}(h:slotA e t=some a):t<4096/\e.get t=some a:=by
 unfold slotA at h;split at h
 ·cases h
 ·rename_i hp;exact⟨isPriv_false.1 hp,h⟩
section
variable {σ:Nat->Nat} {ro:List Nat} {PB:Nat->Prop} {e:Env} {tmps:Array Value} {hp:Cells}
theorem Sim.eval(s:Sim σ ro PB e tmps hp){fn:FI}{ds:List Deferred}{rd:Option Nat}{k:List Item}{x:Operand}{a:AV}(h:opdA e x=some a)(hb:a≠.bad):(mkF fn ds rd tmps k).eval x=conc σ a:=by
 cases x with
 | tmp t =>
  obtain⟨h1,h2⟩:=slotA_some h;have:=s.slot t a h1 h2 hb;show tmps.getD t undef=_;rw[Array.getD_eq_getD_getElem?,this];rfl
 | const v=>simp only[opdA,Option.some.injEq]at h;subst h;rfl
 | global g=>simp only[opdA,Option.some.injEq]at h;subst h;rfl
 | func f=>simp only[opdA,Option.some.injEq]at h;subst h;rfl
theorem Sim.put(s:Sim σ ro PB e tmps hp)(dst:Option Tmp)(hd:∀ d,dst=some d->d<tmps.size/\d<4096)(a:AV)(v:Value)(hv:a≠.bad->v=conc σ a) :
  Sim σ ro PB (setD e dst a) (putD tmps dst v) hp:=by
 cases dst with
 | none=>exact s
 | some d =>
  obtain⟨h1,h2⟩:=hd d rfl;have hget:∀ i,(setD e (some d) a).get i=if d=i then some a else e.get i:=fun i=>Env.get_cons _ _ _ _
  refine⟨?_,?_,?_,?_,?_,?_⟩
  ·intro i b hi hg hb;rw[hget]at hg;show (tmps.setIfInBounds d v)[i]?=_;by_cases e':d=i
   ·subst e';rw[if_pos rfl]at hg;cases hg;rw[Array.getElem?_setIfInBounds_self,if_pos h1,hv hb]
   ·rw[if_neg e']at hg;rw[Array.getElem?_setIfInBounds_ne e'];exact s.slot i b hi hg hb
  ·intro t w ht hg;rw[hget,if_neg (Nat.ne_of_lt (Nat.lt_of_lt_of_le h2 ht))]at hg;exact s.cell t w ht hg
  ·intro t w ht hg;rw[hget,if_neg (Nat.ne_of_lt (Nat.lt_of_lt_of_le h2 ht))]at hg;exact s.only t w ht hg
  ·intro t t' b b' ht ht' hg hg';rw[hget,if_neg (Nat.ne_of_lt (Nat.lt_of_lt_of_le h2 ht))]at hg;rw[hget,if_neg (Nat.ne_of_lt (Nat.lt_of_lt_of_le h2 ht'))]at hg';exact s.inj t t' b b' ht ht' hg hg'
  ·intro t b ht hg;rw[hget,if_neg (Nat.ne_of_lt (Nat.lt_of_lt_of_le h2 ht))]at hg;exact s.prot t b ht hg
  ·intro t b ht hg;rw[hget,if_neg (Nat.ne_of_lt (Nat.lt_of_lt_of_le h2 ht))]at hg;exact s.cover t b ht hg
end
theorem Sim.again{σ:Nat->Nat}{ro:List Nat}{PB:Nat->Prop}{e:Env}{tmps:Array Value}{hp:Cells}(s:Sim σ ro PB e tmps hp){d:Nat}{a:AV}(h:slotA e d=some a):Sim σ ro PB ((d,a)::e) tmps hp:=by
 obtain⟨h1,h2⟩:=slotA_some h;have hget:∀ i,Env.get ((d,a)::e) i=e.get i:=by
  intro i;rw[Env.get_cons];by_cases e':d=i
  ·rw[if_pos e',<- e'];exact h2.symm
  ·rw[if_neg e']
 exact⟨fun i b hi hg=>s.slot i b hi (hget i▸hg),fun t v ht hg=>s.cell t v ht (hget t▸hg),fun t v ht hg=>s.only t v ht (hget t▸hg),
  fun t t' b b' ht ht' hg hg'=>s.inj t t' b b' ht ht' (hget t▸hg) (hget t'▸hg'),fun t b ht hg=>s.prot t b ht (hget t▸hg),fun t b ht hg=>s.cover t b ht (hget t▸hg)⟩
structure Fr(D:List Nat)(PB:Nat->Prop)(σ:Nat->Nat)(tmps:Array Value)(hp:Cells)(σ':Nat->Nat)(tmps':Array Value)(hp':Cells):Prop where
 size:tmps'.size=tmps.size
 slots:∀ i,i∉D->tmps'[i]?=tmps[i]?
 names:∀ i,i∉D->σ' i=σ i
 prot:∀ r,PB r->hp' r=hp r
theorem Fr.refl{D:List Nat}{PB:Nat->Prop}{σ:Nat->Nat}{tmps:Array Value}{hp:Cells}:Fr D PB σ tmps hp σ tmps hp:=⟨rfl,fun _ _=>rfl,fun _ _=>rfl,fun _ _=>rfl⟩
theorem Fr.trans{D D' E:List Nat}{PB:Nat->Prop}{σ σ' σ'':Nat->Nat}{t t' t'':Array Value}{p p' p'':Cells}(a:Fr D PB σ t p σ' t' p')(b:Fr D' PB σ' t' p' σ'' t'' p'')(h1:∀ i,i∈D->i∈E)(h2:∀ i,i∈D'->i∈E) :
  Fr E PB σ t p σ'' t'' p'' :=
 ⟨b.size.trans a.size,fun i hi=>(b.slots i fun h=>hi (h2 i h)).trans (a.slots i fun h=>hi (h1 i h)),fun i hi=>(b.names i fun h=>hi (h2 i h)).trans (a.names i fun h=>hi (h1 i h)),fun r hr=>(b.prot r hr).trans (a.prot r hr)⟩
theorem Fr.mono{D E:List Nat}{PB PB':Nat->Prop}{σ σ':Nat->Nat}{t t':Array Value}{p p':Cells}(a:Fr D PB σ t p σ' t' p')(h1:∀ i,i∈D->i∈E)(h2:∀ r,PB' r->PB r):Fr E PB' σ t p σ' t' p' :=
 ⟨a.size,fun i hi=>a.slots i fun h=>hi (h1 i h),fun i hi=>a.names i fun h=>hi (h1 i h),fun r hr=>a.prot r (h2 r hr)⟩
/-! ### Private blocks -/
theorem get_setCells(k:Nat):∀ (vs:List Value) (j:Nat) (e:Env) (s:Nat),(∀ t,t<vs.length->s=pkey k (j+t)->(setCells k j vs e).get s=(vs[t]?).map .val)/\((∀ t,t<vs.length->s≠pkey k (j+t))->(setCells k j vs e).get s=e.get s):=by
 intro vs
 induction vs with
 | nil=>intro j e s;exact⟨fun t ht=>by simp at ht,fun _=>rfl⟩
 | cons v vs ih =>
  intro j e s;constructor
  ·intro t ht hs;rw[setCells,Env.get_cons];cases t with
   | zero=>rw[if_pos (by rw[hs];rfl)];rfl
   | succ t =>
    rw[if_neg (by subst hs;unfold pkey;omega)];have:=(ih (j+1) e s).1 t (by simpa using ht) (by rw[hs];congr 1;omega);rw[this];simp
  ·intro hn;rw[setCells,Env.get_cons,if_neg (fun h=>hn 0 (by simp) h.symm)];exact(ih (j+1) e s).2 fun t ht hs=>hn (t+1) (by simp;omega) (by rw[hs];congr 1;omega)
theorem cellsL_eq(v:Value):cellsL v=v.cells.toList:=by
 cases v<;>simp[cellsL,Value.cells]
theorem get_anew{d:Nat}{e:Env}{s:Nat}{a:AV}(h:(anew d e).get s=some a):∃ a₀,e.get s=some a₀/\a=a₀.scrap (Nat.beq d)/\¬ (4096<=s/\blockOf s=d):=by
 unfold anew at h;rw[Env.get_keep,Env.get_scrap]at h;split at h
 ·rename_i hk;cases he:e.get s with
  | none=>rw[he]at h;cases h
  | some a₀ =>
   rw[he]at h;cases h;refine⟨a₀,rfl,rfl,?_⟩;rintro⟨h1,h2⟩;rw[isPriv_iff.2 h1,h2,nbeq_self]at hk;cases hk
 ·cases h
theorem scrap_val{W:Nat->Bool}{a:AV}{v:Value}(h:a.scrap W=.val v):a=.val v:=by
 cases a with
 | val w=>exact h
 | pp k o=>simp only[AV.scrap]at h;split at h<;>cases h
 | bad=>cases h
theorem Sim.make{σ:Nat->Nat}{ro:List Nat}{PB:Nat->Prop}{e:Env}{tmps:Array Value}{hp:Cells}(s:Sim σ ro PB e tmps hp){d r el:Nat}{v:Value}(hd:d<tmps.size)(hd':d<4096)(hdro:d∉ro)(hr:hp r=none)(hPB:∀ b,PB b->∃ x,hp b=some x)
 (hlen:v.cells.size<=4095):Sim (fun i=>if i=d then r else σ i) ro PB ((d,.pp d 0)::setCells d 0 (cellsL v) (anew d e)) (tmps.setIfInBounds d (.pointer (some ⟨r,0,none⟩))) (hp.upd r (true,.cells v.cells el (0,0))) /\
   Fr [d] PB σ tmps hp (fun i=>if i=d then r else σ i) (tmps.setIfInBounds d (.pointer (some ⟨r,0,none⟩))) (hp.upd r (true,.cells v.cells el (0,0))):=by
 have live:∀ s' a,4096<=s'->e.get s'=some a->σ (blockOf s')≠r:=by
  intro s' a h1 h2;obtain⟨w,rfl⟩:=s.only s' a h1 h2;obtain⟨c,el',h3,_⟩:=s.cell s' w h1 h2;intro he;rw[he,hr]at h3;cases h3
 have hget:∀ i a,Env.get ((d,.pp d 0)::setCells d 0 (cellsL v) (anew d e)) i=some a ->
   (i=d/\a=.pp d 0)\/(∃ t w,i=pkey d t/\t<v.cells.size/\v.cells[t]?=some w/\a=.val w) \/
   (∃ a₀,i≠d/\e.get i=some a₀/\a=a₀.scrap (Nat.beq d)/\¬ (4096<=i/\blockOf i=d)):=by
  intro i a h;rw[Env.get_cons]at h;by_cases hi:d=i
  ·rw[if_pos hi]at h;cases h;exact .inl ⟨hi.symm,rfl⟩
  ·rw[if_neg hi]at h;by_cases hc:∃ t,t<(cellsL v).length/\i=pkey d (0+t)
   ·obtain⟨t,ht,hit⟩:=hc;rw[(get_setCells d (cellsL v) 0 (anew d e) i).1 t ht hit]at h;rw[cellsL_eq]at h ht;simp only[Array.length_toList,Array.getElem?_toList]at h ht;cases hw:v.cells[t]? with
    | none=>rw[hw]at h;cases h
    | some w=>rw[hw]at h;cases h;exact .inr (.inl ⟨t,w,by simpa using hit,ht,hw,rfl⟩)
   ·rw[(get_setCells d (cellsL v) 0 (anew d e) i).2 fun t ht hs=>hc ⟨t,ht,hs⟩]at h;obtain⟨a₀,h1,h2,h3⟩:=get_anew h;exact .inr (.inr ⟨a₀,Ne.symm hi,h1,h2,h3⟩)
 refine⟨⟨?_,?_,?_,?_,?_,?_⟩,⟨by simp,?_,?_,?_⟩⟩
 ·intro i a hi hg hb;rcases hget i a hg with⟨rfl,rfl⟩|⟨t,w,rfl,_⟩|⟨a₀,hid,h1,rfl,_⟩
  ·rw[Array.getElem?_setIfInBounds_self,if_pos hd];simp[conc]
  ·have:=@pkey_ge d t;omega
  ·rw[Array.getElem?_setIfInBounds_ne (Ne.symm hid)];cases a₀ with
   | val w=>exact s.slot i _ hi h1 (by simp)
   | pp k o =>
    have hk:Nat.beq d k=false:=by
     cases hbk:Nat.beq d k with
     | false=>rfl
     | true=>exact absurd (show AV.scrap (Nat.beq d) (.pp k o)=.bad by simp[AV.scrap,hbk]) hb
    have hkd:k≠d:=Ne.symm (nbeq_false hk);rw[s.slot i _ hi h1 (by simp)];simp[AV.scrap,hk,conc,hkd]
   | bad=>exact absurd rfl hb
 ·intro s' w hs hg;rcases hget s' _ hg with⟨rfl,h⟩|⟨t,w',rfl,ht,hw,h⟩|⟨a₀,hid,h1,h2,h3⟩
  ·omega
  ·cases h;have ht':t<4096:=by omega
   refine⟨v.cells,el,?_,?_⟩
   ·simp only[blockOf_pkey ht',if_pos];exact Cells.upd_self _ _ _
   ·rw[mod_pkey ht'];exact hw
  ·have h2':=scrap_val h2.symm;subst h2';obtain⟨c,el',h4,h5⟩:=s.cell s' w hs h1;have hne:blockOf s'≠d:=fun h=>h3 ⟨hs,h⟩;refine⟨c,el',?_,h5⟩;simp only[if_neg hne];rw[Cells.upd_ne _ _ (live s' _ hs h1)];exact h4
 ·intro s' a hs hg;rcases hget s' a hg with⟨rfl,h⟩|⟨t,w',rfl,ht,hw,h⟩|⟨a₀,hid,h1,rfl,h3⟩
  ·omega
  ·exact⟨w',h⟩
  ·obtain⟨w,rfl⟩:=s.only s' a₀ hs h1;exact⟨w,rfl⟩
 ·intro s' s'' a a' hs hs' hg hg' heq;have key:∀ s' a,4096<=s'->Env.get ((d,.pp d 0)::setCells d 0 (cellsL v) (anew d e)) s'=some a->(blockOf s'=d)\/(blockOf s'≠d/\∃ a₀,e.get s'=some a₀):=by
   intro s' a hs hg;rcases hget s' a hg with⟨rfl,h⟩|⟨t,w',rfl,ht,hw,h⟩|⟨a₀,hid,h1,rfl,h3⟩
   ·omega
   ·exact .inl (blockOf_pkey (by omega))
   ·exact .inr ⟨fun h=>h3 ⟨hs,h⟩,a₀,h1⟩
  rcases key s' a hs hg with h1|⟨h1,a₀,h1'⟩<;>rcases key s'' a' hs' hg' with h2|⟨h2,a₁,h2'⟩
  ·rw[h1,h2]
  ·simp only[if_pos h1,if_neg h2]at heq;exact absurd heq.symm (live s'' a₁ hs' h2')
  ·simp only[if_pos h2,if_neg h1]at heq;exact absurd heq (live s' a₀ hs h1')
  ·simp only[if_neg h1,if_neg h2]at heq;exact s.inj s' s'' a₀ a₁ hs hs' h1' h2' heq
 ·intro s' a hs hg hro;rcases hget s' a hg with⟨rfl,h⟩|⟨t,w',rfl,ht,hw,h⟩|⟨a₀,hid,h1,rfl,h3⟩
  ·omega
  ·simp only[blockOf_pkey (show t<4096 by omega),if_pos];intro hp';obtain⟨x,hx⟩:=hPB _ hp';rw[hr]at hx;cases hx
  ·have hne:blockOf s'≠d:=fun h=>h3 ⟨hs,h⟩;simp only[if_neg hne];exact s.prot s' a₀ hs h1 hro
 ·intro s' a hs hg hro;rcases hget s' a hg with⟨rfl,h⟩|⟨t,w',rfl,ht,hw,h⟩|⟨a₀,hid,h1,rfl,h3⟩
  ·omega
  ·rw[blockOf_pkey (show t<4096 by omega)]at hro;exact absurd hro hdro
  ·have hne:blockOf s'≠d:=fun h=>h3 ⟨hs,h⟩;simp only[if_neg hne];exact s.cover s' a₀ hs h1 hro
 ·intro i hi;have:d≠i:=fun h=>hi (by simp[h]);rw[Array.getElem?_setIfInBounds_ne this]
 ·intro i hi;have:i≠d:=fun h=>hi (by simp[h]);simp only[if_neg this]
 ·intro b hb;have:b≠r:=by
   rintro rfl;obtain⟨x,hx⟩:=hPB _ hb;rw[hr]at hx;cases hx
  rw[Cells.upd_ne _ _ this]
def setMany(c:Array Value):Nat->List Value->Array Value
 | _,[]=>c
 | o,v::vs=>setMany (c.setIfInBounds o v) (o+1) vs
theorem size_setMany:∀ (vs:List Value) (c:Array Value) (o:Nat),(setMany c o vs).size=c.size:=by
 intro vs
 induction vs with
 | nil=>intro c o;rfl
 | cons v vs ih=>intro c o;rw[setMany,ih];simp
theorem get_setMany:∀ (vs:List Value) (c:Array Value) (o:Nat),o+vs.length<=c.size->∀ i,(setMany c o vs)[i]?=if o<=i/\i<o+vs.length then vs[i-o]? else c[i]?:=by
 intro vs
 induction vs with
 | nil=>intro c o _ i;rw[setMany,if_neg (by simp)]
 | cons v vs ih =>
  intro c o h i;rw[setMany,ih _ _ (by simp at h ⊢;omega)];simp only[List.length_cons]at h ⊢;by_cases h1:i=o
  ·subst h1;rw[if_neg (by omega),if_pos (by omega),Array.getElem?_setIfInBounds_self,if_pos (by omega)];simp
  ·by_cases h2:o+1<=i/\i<o+1+vs.length
   ·rw[if_pos h2,if_pos (by omega)];have:i-o=(i-(o+1))+1:=by omega
    rw[this];simp
   ·rw[if_neg h2,if_neg (by omega),Array.getElem?_setIfInBounds_ne (Ne.symm h1)]
theorem lwp_storeCells{P:Program}{Q:Unit->Cells->Prop}{E:Halt->Cells->Prop}:∀ (vs:List Value) (i:Nat) (h:Cells) (b off:Nat) (c:Array Value) (el:TypeId),h b=some (true,.cells c el (0,0))->off+i+vs.length<=c.size->(∀ v∈vs,isOne v=true) ->
  Q () (h.upd b (true,.cells (setMany c (off+i) vs) el (0,0)))->Sem.lwp P (storeCells ⟨b,off,none⟩ vs i) Q E h:=by
 intro vs
 induction vs with
 | nil =>
  intro i h b off c el hb _ _ hq;have:h.upd b (true,.cells c el (0,0))=h:=by funext r;unfold Cells.upd;split<;>simp_all
  rw[setMany,this]at hq;exact hq
 | cons v vs ih =>
  intro i h b off c el hb hlen hone hq;have ha:(Addr.add ⟨b,off,none⟩ i)=⟨b,off+i,none⟩:=by unfold Addr.add;split<;>simp_all
  have hl:off+i<c.size:=by simp at hlen;omega
  unfold storeCells;refine Sem.lwp_bind (Go.store (Addr.add ⟨b,off,none⟩ i) v) _ ?_;rw[ha];have hset:h.setCell ⟨b,off+i,none⟩ v=h.upd b (true,.cells (c.setIfInBounds (off+i) v) el (0,0)):=by
   funext r;unfold Cells.setCell Cells.upd;by_cases e:r=b
   ·subst e;simp[hb]
   ·simp[e]
  refine⟨rfl,hone v (by simp),⟨_,hb⟩,?_,?_,?_⟩
  ·refine⟨c[off+i],?_⟩;simp[Cells.cell?,hb,hl]
  ·simp[Cells.frozen?,hb]
  ·show Sem.lwp P (storeCells ⟨b,off,none⟩ vs (i+1)) Q E (h.setCell ⟨b,off+i,none⟩ v);rw[hset];refine ih (i+1) _ b off _ el (Cells.upd_self _ _ _) (by simp at hlen ⊢;omega) (fun w hw=>hone w (by simp[hw])) ?_;have e2:(h.upd b (true,.cells (c.setIfInBounds (off+i) v) el (0,0))).upd b (true,.cells (setMany (c.setIfInBounds (off+i) v) (off+(i+1)) vs) el (0,0))=h.upd b (true,.cells (setMany c (off+i) (v::vs)) el (0,0)):=by
    funext r;unfold Cells.upd;by_cases e:r=b
    ·simp[e,setMany,Nat.add_assoc]
    ·simp[e]
   rw[e2];exact hq
theorem lwp_loadCells{P:Program}{Q:Array Value->Cells->Prop}{E:Halt->Cells->Prop}:∀ (l:List Value) (a:Addr) (i:Nat) (acc:Array Value) (h:Cells),(∀ t v,l[t]?=some v->h.cell? (a.add (i+t))=some v)->Q (acc++l.toArray) h ->
  Sem.lwp P (loadCellsFrom a i l.length acc) Q E h:=by
 intro l
 induction l with
 | nil=>intro a i acc h _ hq;simp at hq;exact hq
 | cons v l ih =>
  intro a i acc h hc hq;show Sem.lwp P ((Go.load (a.add i)).bind fun v=>loadCellsFrom a (i+1) l.length (acc.push v)) Q E h;refine Sem.lwp_bind _ _ ⟨rfl,v,hc 0 v (by simp),?_⟩;refine ih a (i+1) (acc.push v) h (fun t w hw=>?_) ?_
  ·have:=hc (t+1) w (by simpa using hw);rw[show i+1+t=i+(t+1) by omega];exact this
  ·rw[show acc.push v++l.toArray=acc++(v::l).toArray by apply Array.ext';simp];exact hq
theorem privCells_spec{e:Env}{k:Nat}:∀ (n j:Nat) (l:List Value),privCells e k j n=some l->l.length=n/\∀ t v,l[t]?=some v->e.get (pkey k (j+t))=some (.val v):=by
 intro n
 induction n with
 | zero=>intro j l h;simp only[privCells,Option.some.injEq]at h;subst h;simp
 | succ n ih =>
  intro j l h;rw[privCells]at h;split at h
  ·rename_i v l' hv hl;cases h;obtain⟨h1,h2⟩:=ih (j+1) l' hl;refine⟨by simp[h1],fun t w hw=>?_⟩;cases t with
   | zero=>simp at hw;subst hw;exact hv
   | succ t=>rw[show j+(t+1)=j+1+t by omega];exact h2 t w (by simpa using hw)
  ·cases h
theorem Cells.add_upd_right{h k:Cells}{r:Nat}{x:Bool×Obj}(hn:h r=none):(h.add k).upd r x=h.add (k.upd r x):=by
 funext r';unfold Cells.upd Cells.add;by_cases e:r'=r
 ·subst e;simp[hn]
 ·simp[e]
theorem Sim.store{P:Program}{σ:Nat->Nat}{ro:List Nat}{PB:Nat->Prop}{e:Env}{tmps:Array Value}{hp g:Cells}(s:Sim σ ro PB e tmps hp)(dj:Disj g hp){b j:Nat}{vs l:List Value}(hro:b∉ro)(hl:privCells e b j vs.length=some l)(hle:j+vs.length<=4095)
 (hone:∀ v∈vs,isOne v=true){Q:Unit->Cells->Prop}{E:Halt->Cells->Prop}
 (hq:∀ hp',Sim σ ro PB (setCells b j vs e) tmps hp'->Disj g hp'->Fr [] PB σ tmps hp σ tmps hp'->Q () (g.add hp')):Sem.lwp P (storeCells ⟨σ b,j,none⟩ vs 0) Q E (g.add hp):=by
 cases vs with
 | nil=>exact hq hp s dj Fr.refl
 | cons v vs =>
  obtain⟨h1,h2⟩:=privCells_spec _ _ _ hl;have hkey:∀ t,t<(v::vs).length->∃ w,e.get (pkey b (j+t))=some (.val w):=by
   intro t ht;rw[<- h1]at ht;exact⟨l[t],h2 t l[t] (by simp[ht])⟩
  obtain⟨w0,hw0⟩:=hkey 0 (by simp);obtain⟨c,el,hc,_⟩:=s.cell _ _ pkey_ge hw0;rw[blockOf_pkey (by omega)]at hc;have hsz:j+(v::vs).length<=c.size:=by
   obtain⟨w,hw⟩:=hkey vs.length (by simp);obtain⟨c',el',hc',hget⟩:=s.cell _ _ pkey_ge hw;simp only[List.length_cons]at hle;rw[blockOf_pkey (by omega),hc]at hc';cases hc';rw[mod_pkey (by omega)]at hget;have:=(Array.getElem?_eq_some_iff.1 hget).1;simp;omega
  have hgn:g (σ b)=none:=by
   rcases dj (σ b) with h|h
   ·exact h
   ·rw[hc]at h;cases h
  refine lwp_storeCells (v::vs) 0 (g.add hp) (σ b) j c el (Cells.add_right' dj hc) (by simpa using hsz) hone ?_;rw[Nat.add_zero,Cells.add_upd_right hgn];have hother:∀ t a,4096<=t->e.get t=some a->blockOf t≠b->σ (blockOf t)≠σ b:=by
   intro t a ht hg hne heq;have:=s.inj t (pkey b j) a (.val w0) ht pkey_ge hg hw0 (by rw[blockOf_pkey (by omega)];exact heq);rw[blockOf_pkey (by omega)]at this;exact hne this
  have hget:∀ t a,(setCells b j (v::vs) e).get t=some a->(∃ u w,u<(v::vs).length/\t=pkey b (j+u)/\(v::vs)[u]?=some w/\a=.val w)\/(e.get t=some a/\∀ u,u<(v::vs).length->t≠pkey b (j+u)):=by
   intro t a ha;by_cases hu:∃ u,u<(v::vs).length/\t=pkey b (j+u)
   ·obtain⟨u,hu,ht⟩:=hu;rw[(get_setCells b (v::vs) j e t).1 u hu ht]at ha;cases hw:(v::vs)[u]? with
    | none=>rw[hw]at ha;cases ha
    | some w=>rw[hw]at ha;cases ha;exact .inl ⟨u,w,hu,ht,hw,rfl⟩
   ·have hn:∀ u,u<(v::vs).length->t≠pkey b (j+u):=fun u h ht=>hu ⟨u,h,ht⟩;rw[(get_setCells b (v::vs) j e t).2 hn]at ha;exact .inr ⟨ha,hn⟩
  have hdom:∀ t a,4096<=t->(setCells b j (v::vs) e).get t=some a->∃ a₀,e.get t=some a₀:=by
   intro t a ht ha;rcases hget t a ha with⟨u,w,hu,rfl,hw,rfl⟩|⟨ha,_⟩
   ·obtain⟨w',hw'⟩:=hkey u hu;exact⟨_,hw'⟩
   ·exact⟨_,ha⟩
  refine hq _ ⟨?_,?_,?_,?_,?_,?_⟩ ?_ ⟨rfl,fun _ _=>rfl,fun _ _=>rfl,?_⟩
  ·intro i a hi ha hb;rcases hget i a ha with⟨u,w,hu,rfl,hw,rfl⟩|⟨ha,_⟩
   ·have:=@pkey_ge b (j+u);omega
   ·exact s.slot i a hi ha hb
  ·intro t w ht ha;by_cases hbt:blockOf t=b
   ·refine⟨setMany c j (v::vs),el,by rw[hbt];exact Cells.upd_self _ _ _,?_⟩;rw[get_setMany _ _ _ hsz];rcases hget t _ ha with⟨u,w',hu,rfl,hw,heq⟩|⟨ha,hn⟩
    ·cases heq;rw[mod_pkey (by omega),if_pos (by omega),show j+u-j=u by omega];exact hw
    ·obtain⟨c',el',hc',hget'⟩:=s.cell t w ht ha;rw[hbt,hc]at hc';cases hc';rw[if_neg ?_];exact hget';rintro⟨ha1,ha2⟩;exact hn (t%4096-j) (by omega) (by rw[show j+(t%4096-j)=t%4096 by omega,<- hbt];exact pkey_of ht)
   ·rcases hget t _ ha with⟨u,w',hu,rfl,hw,heq⟩|⟨ha,hn⟩
    ·exact absurd (blockOf_pkey (by omega)) hbt
    ·obtain⟨c',el',hc',hget'⟩:=s.cell t w ht ha;exact⟨c',el',by rw[Cells.upd_ne _ _ (hother t _ ht ha hbt)];exact hc',hget'⟩
  ·intro t a ht ha;rcases hget t a ha with⟨u,w,hu,rfl,hw,rfl⟩|⟨ha,_⟩
   ·exact⟨w,rfl⟩
   ·exact s.only t a ht ha
  ·intro t t' a a' ht ht' ha ha' heq;obtain⟨a₀,h0⟩:=hdom t a ht ha;obtain⟨a₁,h1'⟩:=hdom t' a' ht' ha';exact s.inj t t' a₀ a₁ ht ht' h0 h1' heq
  ·intro t a ht ha hr;obtain⟨a₀,h0⟩:=hdom t a ht ha;exact s.prot t a₀ ht h0 hr
  ·intro t a ht ha hr;obtain⟨a₀,h0⟩:=hdom t a ht ha;exact s.cover t a₀ ht h0 hr
  ·intro r;by_cases e':r=σ b
   ·subst e';exact .inl hgn
   ·rw[Cells.upd_ne _ _ e'];exact dj r
  ·intro r hr;have:r≠σ b:=by
    rintro rfl;have:=s.prot _ _ pkey_ge hw0 (by rw[blockOf_pkey (by omega)];exact hro);rw[blockOf_pkey (by omega)]at this;exact this hr
   rw[Cells.upd_ne _ _ this]
end
section
section laws
variable {α β:Type} {P:Program} {Q:α->Cells->Prop} {E:Halt->Cells->Prop} {h:Cells}
theorem lwp_pure(a:α):Sem.lwp P (pure a:Sem α) Q E h↔Q a h:=Iff.rfl
theorem lwp_bind(s:Sem β)(f:β->Sem α):Sem.lwp P (s >>= f) Q E h↔Sem.lwp P s (fun a h=>Sem.lwp P (f a) Q E h) E h:=by
 show Sem.lwp P (s.bind f) Q E h↔_;constructor
 ·induction s generalizing h with
  | pure a=>exact id
  | load m a k ih=>rintro⟨e,v,hc,hs⟩;exact⟨e,v,hc,ih v hs⟩
  | store m a v k ih=>rintro⟨e,h1,h2,h3,h4,hs⟩;exact⟨e,h1,h2,h3,h4,ih hs⟩
  | new o k ih=>exact fun hs=>unpend.mono hs fun hs r hr=>ih r (hs r hr)
  | shape r k ih=>rintro⟨h1,hs⟩;exact⟨h1,ih _ hs⟩
  | freeze a n k ih=>rintro⟨h1,h2,hs⟩;exact⟨h1,h2,ih hs⟩
  | frozen a k ih=>rintro⟨h1,hs⟩;exact⟨h1,ih _ hs⟩
  | getObj r k ih=>rintro⟨m,o,h1,h2,hs⟩;exact⟨m,o,h1,h2,ih _ hs⟩
  | setObj r o k ih=>rintro⟨h1,hs⟩;exact⟨h1,hs.mono fun hs=>ih hs⟩
  | choose q k ih =>
   intro hs;change Sem.lwp P (.choose q fun n=>(k n).bind f) Q E h at hs;unfold Sem.lwp at hs ⊢;split
   ·rename_i hf;rw[if_pos hf]at hs;exact ih _ hs
   ·rename_i hf;rw[if_neg hf]at hs;exact fun t=>ih _ (hs t)
  | sys c k ih=>intro hs;exact hs.elim
  | program k ih=>intro hs;exact ih _ hs
  | mark m k ih=>intro hs;exact⟨hs.1,ih hs.2⟩
  | halt e=>exact id
 ·exact Sem.lwp_bind s f
theorem lwp_program{Q:Program->Cells->Prop}:Sem.lwp P program Q E h↔Q P h:=Iff.rfl
theorem lwp_underlying{Q:TypeDesc->Cells->Prop}{t:TypeId}{d:TypeDesc}(hu:P.underlying t=some d):Sem.lwp P (underlying t) Q E h↔Q d h:=by
 unfold underlying;rw[lwp_bind,lwp_program,hu];exact Iff.rfl
theorem lwp_typeInfo{Q:TypeInfo->Cells->Prop}{t:TypeId}{i:TypeInfo}(hu:P.info? t=some i):Sem.lwp P (typeInfo t) Q E h↔Q i h:=by
 unfold typeInfo;rw[lwp_bind,lwp_program,hu];exact Iff.rfl
theorem lwp_sizeOf{Q:Nat->Cells->Prop}{t:TypeId}{i:TypeInfo}(hu:P.info? t=some i):Sem.lwp P (sizeOf t) Q E h↔Q i.size h:=by
 unfold sizeOf;rw[lwp_bind,lwp_typeInfo hu];exact Iff.rfl
theorem lwp_zeroValue{Q:Value->Cells->Prop}{t:TypeId}{i:TypeInfo}{z:Value}(hu:P.info? t=some i)(hz:i.zero=some z):Sem.lwp P (zeroValue t) Q E h↔Q z h:=by
 unfold zeroValue;rw[lwp_bind,lwp_typeInfo hu,hz];exact Iff.rfl
theorem info_of_underlying{t:TypeId}{d:TypeDesc}(hu:P.underlying t=some d):∃ i,P.info? t=some i:=by
 unfold Program.underlying at hu;cases hi:P.info? t with
 | none=>rw[hi]at hu;cases hu
 | some i=>exact⟨i,rfl⟩
theorem isAggT_true{t:TypeId}(h:isAggT P t=true):∃ d,P.underlying t=some d/\(∃ i,P.info? t=some i/\P.cellsOf t=i.size)/\((∃ fs,d=.struct fs)\/∃ n e,d=.array n e):=by
 unfold isAggT at h;split at h
 ·rename_i fs hu;obtain⟨i,hi⟩:=info_of_underlying hu;exact⟨_,hu,⟨i,hi,by simp[Program.cellsOf,hi]⟩,.inl ⟨fs,rfl⟩⟩
 ·rename_i n e hu;obtain⟨i,hi⟩:=info_of_underlying hu;exact⟨_,hu,⟨i,hi,by simp[Program.cellsOf,hi]⟩,.inr ⟨n,e,rfl⟩⟩
 ·cases h
theorem lwp_isAgg_true{Q:Bool->Cells->Prop}{t:TypeId}(ht:isAggT P t=true):Sem.lwp P (isAgg t) Q E h↔Q true h:=by
 obtain⟨d,hu,_,⟨fs,rfl⟩|⟨n,e,rfl⟩⟩:=isAggT_true ht<;>(unfold isAgg;rw[lwp_bind,lwp_underlying hu];exact Iff.rfl)
theorem lwp_isAgg_false{Q:Bool->Cells->Prop}{t:TypeId}{d:TypeDesc}(hu:P.underlying t=some d)(ht:isAggT P t=false):Sem.lwp P (isAgg t) Q E h↔Q false h:=by
 unfold isAgg;rw[lwp_bind,lwp_underlying hu];unfold isAggT at ht;rw[hu]at ht;cases d<;>first|exact Iff.rfl|cases ht
end laws
section
variable {X:XP} {C:Ctx} {main:Bool} {R:Goroutine->LH->Prop}
theorem un_wp{P:Program}{kd:Kind}{v:Value}{k:Value->T}{Q:Leaf->LH->Prop}{h:LH}(hw:(T.un kd v k).wp X P Q h):(k v).wp X P Q h:=by
 cases kd<;>cases v<;>simp only[T.un,T.unI,T.unB,T.unS,T.unP,T.unM,T.unC,T.unStr,T.unA]at hw<;>first
  | exact hw
  | exact hw.elim
  | (rename_i p;cases p<;>first|exact hw|exact hw.elim)
  | (split at hw<;>first|(rename_i hd;have:=of_decide_eq_true hd;subst this;exact hw)|exact hw.elim)
theorem pop_wp{P:Program}{kd:Kind}{vs:List Value}{k:Value->List Value->T}{Q:Leaf->LH->Prop}{h:LH}(hw:(T.pop kd vs k).wp X P Q h):∃ v vs',vs=v::vs'/\(k v vs').wp X P Q h:=by
 cases vs with
 | nil=>cases kd<;>exact hw.elim
 | cons v vs =>
  refine⟨v,vs,rfl,?_⟩;cases kd<;>cases v<;>simp only[T.pop,T.popI,T.popB,T.popS,T.popP,T.popM,T.popC,T.popStr,T.popV,T.popA]at hw<;>first
   | exact hw
   | exact hw.elim
   | (rename_i p;cases p<;>first|exact hw|exact hw.elim)
   | (split at hw<;>first|(rename_i hd;have:=of_decide_eq_true hd;subst this;exact hw)|exact hw.elim)
theorem unNil_wp{P:Program}{vs:List Value}{k:T}{Q:Leaf->LH->Prop}{h:LH}(hw:(T.unNil vs k).wp X P Q h):vs=[]/\k.wp X P Q h:=by
 cases vs with
 | nil=>exact⟨rfl,hw⟩
 | cons v vs=>exact hw.elim
theorem unList_wp{P:Program}{Q:Leaf->LH->Prop}{h:LH}:∀ {ks:List Kind} {vs:List Value} {k:List Value->T},(T.unList ks vs k).wp X P Q h->(k vs).wp X P Q h:=by
 intro ks
 induction ks with
 | nil=>intro vs k hw;obtain⟨rfl,hw⟩:=unNil_wp hw;exact hw
 | cons kd ks ih =>
  intro vs k hw;obtain⟨v,vs',rfl,hw'⟩:=pop_wp hw;exact ih (k:=fun l=>k (v::l)) hw'
theorem unSh_wp{P:Program}{sh:Shape}{v:Value}{k:Value->T}{Q:Leaf->LH->Prop}{h:LH}(hw:(T.unSh sh v k).wp X P Q h):(k v).wp X P Q h:=by
 cases sh with
 | cell kd=>exact un_wp hw
 | agg ks =>
  cases v<;>simp only[T.unSh,T.unAgg]at hw<;>first|exact hw.elim|skip
  rename_i cs;have:=unList_wp hw;simpa using this
theorem shaped_wp{P:Program}{t:TypeId}{v:Value}{k:Value->T}{Q:Leaf->LH->Prop}{h:LH}(hw:(T.shaped P t v k).wp X P Q h):(k v).wp X P Q h:=by
 unfold T.shaped at hw;split at hw
 ·exact unSh_wp hw
 ·exact hw
theorem unShs_wp{P:Program}{Q:Leaf->LH->Prop}{h:LH}:∀ {ss:List Shape} {vs:List Value} {k:List Value->T},(T.unShs ss vs k).wp X P Q h->(k vs).wp X P Q h:=by
 intro ss
 induction ss with
 | nil=>intro vs k hw;obtain⟨rfl,hw⟩:=unNil_wp hw;exact hw
 | cons s ss ih =>
  intro vs k hw;cases vs with
  | nil=>exact hw.elim
  | cons v vs =>
   have hw:=unSh_wp (k:=fun v=>T.unShs ss vs fun l=>k (v::l)) hw;exact ih (k:=fun l=>k (v::l)) hw
theorem unTup_wp{P:Program}{v:Value}{ss:List Shape}{k:Value->T}{Q:Leaf->LH->Prop}{h:LH}(hw:(T.unTup v fun l=>T.unShs ss l fun l=>k (.tuple l.toArray)).wp X P Q h):(k v).wp X P Q h:=by
 cases v<;>simp only[T.unTup]at hw<;>first|exact hw.elim|skip
 rename_i cs;have:=unShs_wp hw;simpa using this
theorem unRes_wp{P:Program}{ss:List Shape}{v:Value}{k:Value->T}{Q:Leaf->LH->Prop}{h:LH}(hw:(T.unRes ss v k).wp X P Q h):(k v).wp X P Q h:=by
 unfold T.unRes at hw;split at hw
 ·exact unSh_wp hw
 ·exact unTup_wp hw
theorem withA_wp{P:Program}{a:Option AV}{k:AV->T}{Q:Leaf->LH->Prop}{h:LH}(hw:(withA a k).wp X P Q h):∃ b,a=some b/\(k b).wp X P Q h:=by
 cases a with
 | none=>exact hw.elim
 | some b=>exact⟨b,rfl,hw⟩
theorem withV_wp{P:Program}{a:Option AV}{k:Value->T}{Q:Leaf->LH->Prop}{h:LH}(hw:(withV a k).wp X P Q h):∃ v,a=some (.val v)/\(k v).wp X P Q h:=by
 unfold withV at hw;split at hw
 ·rename_i v;exact⟨v,rfl,hw⟩
 ·exact hw.elim
theorem withVs_wp{P:Program}{e:Env}{Q:Leaf->LH->Prop}{h:LH}:∀ {xs:List Operand} {k:List Value->T},(withVs e xs k).wp X P Q h->∃ vs,(∀ ρ:Operand->Value,(∀ x v,opdA e x=some (.val v)->ρ x=v)->xs.map ρ=vs)/\(k vs).wp X P Q h:=by
 intro xs
 induction xs with
 | nil=>intro k hw;exact⟨[],fun _ _=>rfl,hw⟩
 | cons x xs ih =>
  intro k hw;obtain⟨v,hv,hw⟩:=withV_wp hw;obtain⟨vs,h1,h2⟩:=ih (k:=fun l=>k (v::l)) hw;exact⟨v::vs,fun ρ hρ=>by rw[List.map_cons,hρ x v hv,h1 ρ hρ],h2⟩
theorem withParts_wp{P:Program}{e:Env}{Q:Leaf->LH->Prop}{h:LH}:∀ {xs:List (Nat×Operand)} {k:List (Nat×Value)->T},(withParts e xs k).wp X P Q h->∃ vs,(∀ ρ:Operand->Value,(∀ x v,opdA e x=some (.val v)->ρ x=v)->xs.map (fun p=>(p.1,ρ p.2))=vs)/\(k vs).wp X P Q h:=by
 intro xs
 induction xs with
 | nil=>intro k hw;exact⟨[],fun _ _=>rfl,hw⟩
 | cons x xs ih =>
  intro k hw;obtain⟨i,x⟩:=x;obtain⟨v,hv,hw⟩:=withV_wp hw;obtain⟨vs,h1,h2⟩:=ih (k:=fun l=>k ((i,v)::l)) hw;exact⟨(i,v)::vs,fun ρ hρ=>by rw[List.map_cons,h1 ρ hρ];simp only;rw[hρ x v hv],h2⟩
theorem loadK_wp{P:Program}{kd:Kind}{a:Addr}{k:Value->T}{Q:Leaf->LH->Prop}{h:LH}(hw:(T.loadK kd a k).wp X P Q h):∃ v,h.get.cell? a=some v/\(k v).wp X P Q h:=by
 cases kd<;>simp only[T.loadK,T.wp]at hw
 ·obtain⟨n,h1,h2⟩:=hw;exact⟨_,h1,h2⟩
 ·obtain⟨n,h1,h2⟩:=hw;exact⟨_,h1,h2⟩
 ·obtain⟨p,n,c,h1,h2⟩:=hw;exact⟨_,h1,h2⟩
 ·obtain⟨n,h1,h2⟩:=hw;exact⟨_,h1,h2⟩
 ·obtain⟨n,h1,h2⟩:=hw;exact⟨_,h1,h2⟩
 ·obtain⟨n,h1,h2⟩:=hw;exact⟨_,h1,h2⟩
 ·obtain⟨n,h1,h2⟩:=hw;exact⟨_,h1,h2⟩
 ·exact hw
theorem loadL_wp{P:Program}{a:Addr}{Q:Leaf->LH->Prop}{h:LH}:∀ {ks:List Kind} {i:Nat} {k:List Value->T},(T.loadL a ks i k).wp X P Q h->∃ l,l.length=ks.length/\(∀ t v,l[t]?=some v->h.get.cell? (a.add (i+t))=some v)/\(k l).wp X P Q h:=by
 intro ks
 induction ks with
 | nil=>intro i k hw;exact⟨[],rfl,by simp,hw⟩
 | cons kd ks ih =>
  intro i k hw;obtain⟨v,hv,hw⟩:=loadK_wp hw;obtain⟨l,h1,h2,h3⟩:=ih (k:=fun l=>k (v::l)) hw;refine⟨v::l,by simp[h1],fun t w hw'=>?_,h3⟩;cases t with
  | zero=>simp at hw';subst hw';exact hv
  | succ t=>rw[show i+(t+1)=i+1+t by omega];exact h2 t w (by simpa using hw')
theorem storeL_wp{P:Program}{a:Addr}{Q:Leaf->LH->Prop}{k:T}:∀ {vs:List Value} {i:Nat} {h:LH},(T.storeL a vs i k).wp X P Q h->Sem.lwp P (storeCells a vs i) (fun _ h'=>k.wp X P Q { h with get:=h' }) (fun _ _=>False) h.get:=by
 intro vs
 induction vs with
 | nil=>intro i h hw;exact hw
 | cons v vs ih =>
  intro i h hw;unfold storeCells;simp only[T.storeL,T.wp]at hw;obtain⟨h1,h2,h3,h4,h5⟩:=hw;refine Sem.lwp_bind (Go.store (a.add i) v) _ ⟨rfl,h1,h2,h3,h4,?_⟩;exact ih h5
variable {o:Oper} {ops:Array Oper} {i:Nat} {rest:List Nat} {k:List Item} {cs:List Frame} {fn:FI} {ds:List Deferred} {rd:Option Nat}
 {σ:Nat->Nat} {ro:List Nat} {PB:Nat->Prop} {e:Env} {tmps:Array Value} {hp:Cells} {h:LH} {kE:Env->T} {Q:Leaf->LH->Prop} {P:Program}
def Behind(X:XP)(P:Program)(R:Goroutine->LH->Prop)(fn:FI)(ds:List Deferred)(rd:Option Nat)(cs:List Frame)(its:List Item)(D:List Nat)(ro:List Nat)(PB:Nat->Prop)(σ:Nat->Nat)(tmps:Array Value)(hp:Cells)
 (kE:Env->T)(Q:Leaf->LH->Prop):Prop :=
 ∀ e' tmps' σ' hp' h',Sim σ' ro PB e' tmps' hp'->Disj h'.get hp'->Fr D PB σ tmps hp σ' tmps' hp'->(kE e').wp X P Q h'->R (G (mkF fn ds rd tmps' its) cs) (h'.add hp')
theorem fin_val(ho:ops[i]?=some o)(hdst:∀ d,o.dst=some d->d<tmps.size/\d<4096)(s:Sim σ ro PB e tmps hp){h':LH}(dj:Disj h'.get hp){a:AV}{v:Value}(hv:a≠.bad->v=conc σ a)(hT:(kE (setD e o.dst a)).wp X P Q h')
 (hk:Behind X P R fn ds rd cs (.inRegion ops rest::k) o.dst.toList ro PB σ tmps hp kE Q) :
  R (G ((mkF fn ds rd tmps (.inRegion ops (i::rest)::k)).finish v) cs) (h'.add hp):=by
 rw[finish_mkF ho];refine hk _ _ σ hp h' (s.put o.dst hdst a v hv) dj ?_ hT;refine⟨?_,?_,fun _ _=>rfl,fun _ _=>rfl⟩
 ·unfold putD;cases o.dst<;>simp
 ·intro j hj;unfold putD;cases hd:o.dst with
  | none=>rfl
  | some d =>
   have:d≠j:=fun h=>hj (by rw[hd,h];simp);simp only;rw[Array.getElem?_setIfInBounds_ne this]
theorem op_pure(ho:ops[i]?=some o)(hdst:∀ d,o.dst=some d->d<tmps.size/\d<4096)(s:Sim σ ro PB e tmps hp)(dj:Disj h.get hp){a:AV}{v:Value}(hv:a≠.bad->v=conc σ a)(hT:(kE (setD e o.dst a)).wp X P Q h)
 (hk:Behind X P R fn ds rd cs (.inRegion ops rest::k) o.dst.toList ro PB σ tmps hp kE Q){op:Sem Next}
 (hs:Sem.lwp P op (fun nx h'=>nx=.value v/\h'=h.get.add hp) (fun _ _=>False) (h.get.add hp)) :
  Sem.lwp P op (fun nx h'=>Nx P R (mkF fn ds rd tmps (.inRegion ops (i::rest)::k)) cs { h.add hp with get:=h' } nx) (fun _ _=>False) (h.add hp).get:=by
 refine Sem.lwp_mono op hs ?_ (fun _ _ h=>h);rintro nx h' ⟨rfl,rfl⟩;exact fin_val ho hdst s dj hv hT hk
theorem op_sem(ho:ops[i]?=some o)(hdst:∀ d,o.dst=some d->d<tmps.size/\d<4096)(s:Sim σ ro PB e tmps hp)(dj:Disj h.get hp){S:Sem Value}{A:Value->Cells->Prop}(hS:Sem.lwp P S A (fun _ _=>False) h.get)
 (hA:∀ v h',A v h'->∃ a,(a≠.bad->v=conc σ a)/\(kE (setD e o.dst a)).wp X P Q { h with get:=h' })
 (hk:Behind X P R fn ds rd cs (.inRegion ops rest::k) o.dst.toList ro PB σ tmps hp kE Q) :
  Sem.lwp P (do pure (.value (<- S))) (fun nx h'=>Nx P R (mkF fn ds rd tmps (.inRegion ops (i::rest)::k)) cs { h.add hp with get:=h' } nx) (fun _ _=>False) (h.add hp).get:=by
 rw[lwp_bind];refine Sem.lwp_mono S (lwp_frame S hS dj) ?_ ?_
 ·rintro v h₂ ⟨h',d',rfl,hAv⟩;obtain⟨a,hv,hT⟩:=hA v h' hAv;exact fin_val (h':={ h with get:=h' }) ho hdst s d' hv hT hk
 ·rintro e' h₂ ⟨_,_,_,hf⟩;exact hf.elim
theorem op_call(hX:XOK X)(hR:Closed X P main R){fr:Frame}{f:FuncId}{args:Array Value}{A:Value->LH->Prop}(dj:Disj h.get hp)(c:FW X P f args h A)(hA:∀ v h',A v h'->Disj h'.get hp->R (G (fr.finish v) cs) (h'.add hp)) :
  R (G (Frame.enter P f args .normal) (fr::cs)) (h.add hp):=by
 refine c.2 main (fun g h=>Disj h.get hp->R g (h.add hp)) (hR.frame hX hp) (fr::cs) (hX.stk _ _) ?_ dj;intro fr' v h' j hf dj' hr hQ dk;have d1:Disj h'.get hp:=dk.of_add_left;have d2:Disj j hp:=Disj.of_add_right dj' dk;refine ret_step hR.1 (v:=v) (hr.frame dk) ?_;have e1:(h'.add j).add hp=(h'.add hp).add j:=by unfold LH.add;simp only;rw[Cells.add_swap d2]
 rw[e1];exact hR.1.up _ _ j (hA v h' hQ d1) (Disj.add dj' d2.symm)
end
end
section
section
variable {X:XP} {C:Ctx} {main:Bool} {R:Goroutine->LH->Prop}
variable {o:Oper} {ops:Array Oper} {i:Nat} {rest:List Nat} {k:List Item} {cs:List Frame} {fn:FI} {ds:List Deferred} {rd:Option Nat}
 {σ:Nat->Nat} {ro:List Nat} {PB:Nat->Prop} {e:Env} {tmps:Array Value} {hp:Cells} {h:LH} {kE:Env->T} {Q:Leaf->LH->Prop} {q:Bool}
theorem lwp_loadVar_one{P:Program}{t:TypeId}{d:TypeDesc}(hu:P.underlying t=some d)(ht:isAggT P t=false){a:Addr}{v:Value}{H:Cells}(hc:H.cell? a=some v){Q:Value->Cells->Prop}{E:Halt->Cells->Prop}(hq:Q v H):Sem.lwp P (loadVar t a) Q E H:=by
 unfold loadVar;rw[lwp_bind,lwp_isAgg_false hu ht];exact⟨rfl,v,hc,hq⟩
theorem lwp_loadVar_agg{P:Program}{t:TypeId}(ht:isAggT P t=true){a:Addr}{l:List Value}{H:Cells}(hl:l.length=P.cellsOf t)(hc:∀ j v,l[j]?=some v->H.cell? (a.add j)=some v){Q:Value->Cells->Prop}{E:Halt->Cells->Prop}(hq:Q (.agg l.toArray) H):Sem.lwp P (loadVar t a) Q E H:=by
 obtain⟨d,hu,⟨inf,hi,hz⟩,_⟩:=isAggT_true ht;unfold loadVar;rw[lwp_bind,lwp_isAgg_true ht];simp only[if_true];simp only[lwp_bind,lwp_sizeOf hi];unfold loadCells;rw[<- hz,<- hl];refine lwp_loadCells l a 0 #[] H (fun t v hv=>by rw[Nat.zero_add];exact hc t v hv) ?_;rw[lwp_pure];simpa using hq
theorem add0(b off:Nat)(j:Nat):(Addr.add ⟨b,off,none⟩ j)=⟨b,off+j,none⟩:=by
 unfold Addr.add;split<;>simp_all
theorem Sim.privCell(s:Sim σ ro PB e tmps hp){b j:Nat}{v:Value}(hj:j<4096)(hg:e.get (pkey b j)=some (.val v)):hp.cell? ⟨σ b,j,none⟩=some v:=by
 obtain⟨c,el,h1,h2⟩:=s.cell (pkey b j) v pkey_ge hg;rw[blockOf_pkey hj]at h1;rw[mod_pkey hj]at h2;simp[Cells.cell?,h1,h2]
theorem lwp_privLoad{P:Program}(s:Sim σ ro PB e tmps hp)(dj:Disj h.get hp){b j:Nat}{t:TypeId}{v:Value}(hl:privLoad P e b j t=some v){Q:Value->Cells->Prop}{E:Halt->Cells->Prop}(hq:Q v (h.get.add hp)) :
  Sem.lwp P (loadVar t ⟨σ b,j,none⟩) Q E (h.get.add hp):=by
 have cellAdd:∀ {a:Addr} {v:Value},hp.cell? a=some v->(h.get.add hp).cell? a=some v:=by
  intro a v hc;unfold Cells.cell? at hc ⊢;split at hc
  ·rename_i m c el fz hx;rw[Cells.add_right' dj hx];exact hc
  ·rename_i m c el hx;rw[Cells.add_right' dj hx];exact hc
  ·cases hc
 unfold privLoad at hl;split at hl
 ·rename_i dd hu hle;have hle:=Nat.le_of_ble_eq_true hle;split at hl
  ·rename_i hagg;split at hl
   ·rename_i l hpl;cases hl;obtain⟨h1,h2⟩:=privCells_spec _ _ _ hpl;refine lwp_loadVar_agg hagg h1 (fun t v hv=>?_) hq;rw[add0];have hlt:t<l.length:=by
     rcases Nat.lt_or_ge t l.length with h|h
     ·exact h
     ·rw[List.getElem?_eq_none h]at hv;cases hv
    exact cellAdd (s.privCell (by omega) (h2 t v hv))
   ·cases hl
  ·rename_i hagg;split at hl
   ·rename_i v hg;cases hl;exact lwp_loadVar_one hu hagg (cellAdd (s.privCell (by omega) hg)) hq
   ·cases hl
 ·cases hl
theorem kindsF_some{P:Program}:∀ {d:Nat} {t:TypeId} {ks:List Kind},kindsF P d t=some ks->∃ dd,P.underlying t=some dd:=by
 intro d t ks h;cases d with
 | zero=>simp[kindsF]at h
 | succ d =>
  rw[kindsF]at h;cases hu:P.underlying t with
  | none=>rw[hu]at h;cases h
  | some dd=>exact⟨dd,rfl⟩
theorem opdVal(s:Sim σ ro PB e tmps hp){fr:Frame}(hfr:fr.tmps=tmps):∀ x v,opdA e x=some (.val v)->fr.eval x=v:=by
 intro x v hx;have:=s.eval (fn:=⟨0,.normal,by simp⟩) (ds:=[]) (rd:=none) (k:=[]) hx (by simp);cases x<;>simp only[Frame.eval,mkF,conc]at this ⊢<;>first|exact this|(rw[hfr];exact this)
theorem map_toList{α β:Type}(f:α->β)(a:Array α){l:List β}(h:a.toList.map f=l):a.map f=l.toArray:=by
 apply Array.ext';simp[<- h]
theorem op_unit(ho:ops[i]?=some o)(hdst:∀ d,o.dst=some d->d<tmps.size/\d<4096)(s:Sim σ ro PB e tmps hp)(dj:Disj h.get hp){P:Program}{S:Sem Unit}
 (hT:(T.sem q (do S;pure undef) fun _=>kE (setD e o.dst (.val undef))).wp X P Q h)
 (hk:Behind X P R fn ds rd cs (.inRegion ops rest::k) o.dst.toList ro PB σ tmps hp kE Q) :
  Sem.lwp P (do S;pure .skip) (fun nx h'=>Nx P R (mkF fn ds rd tmps (.inRegion ops (i::rest)::k)) cs { h.add hp with get:=h' } nx) (fun _ _=>False) (h.add hp).get:=by
 simp only[T.wp,lwp_bind,lwp_pure]at hT;rw[lwp_bind];refine Sem.lwp_mono S (lwp_frame S hT dj) ?_ ?_
 ·rintro v h₂ ⟨h',d',rfl,hAv⟩;exact fin_val (h':={ h with get:=h' }) ho hdst s d' (a:=.val undef) (fun _=>rfl) hAv.2 hk
 ·rintro e' h₂ ⟨_,_,_,hf⟩;exact hf.elim
theorem lwp_eqGuard{P:Program}{op:BinOp}{t:TypeId}{x y:Operand}{a b:Value}{Q:Unit->Cells->Prop}{E:Halt->Cells->Prop}{H:Cells}(hab:(∃ k m k' n,a=.int k m/\b=.int k' n)\/(∃ m n,a=.bool m/\b=.bool n))(hq:Q () H):Sem.lwp P (eqGuard op t x y a b) Q E H:=by
 rcases hab with⟨k,m,k',n,rfl,rfl⟩|⟨m,n,rfl,rfl⟩<;>(unfold eqGuard;cases op<;>exact hq)
theorem unCmp_wp{X:XP}{P:Program}{op:BinOp}{a v:Value}{k:Value->T}{Q:Leaf->LH->Prop}{h:LH}(hw:(T.unCmp op a v k).wp X P Q h):(k v).wp X P Q h:=by
 unfold T.unCmp at hw;split at hw<;>first
  | (cases v<;>first|exact hw|exact hw.elim)
  | skip
 ·split at hw
  ·cases v<;>first|exact hw|exact hw.elim
  ·exact hw
 all_goals exact hw
theorem binT_sound{op:BinOp}{t:TypeId}{x y:Operand}{a b:Value}{P:Program}(ho:ops[i]?=some o)(hdst:∀ d,o.dst=some d->d<tmps.size/\d<4096)(s:Sim σ ro PB e tmps hp)(dj:Disj h.get hp)
 (hT:(binT P q op t x y a b fun v=>kE (setD e o.dst (.val v))).wp X P Q h)
 (hk:Behind X P R fn ds rd cs (.inRegion ops rest::k) o.dst.toList ro PB σ tmps hp kE Q) :
    Sem.lwp P (do pure (.value (<- (do eqGuard op t x y a b;binOp op t a b)))) (fun nx h'=>Nx P R (mkF fn ds rd tmps (.inRegion ops (i::rest)::k)) cs { h.add hp with get:=h' } nx) (fun _ _=>False) (h.add hp).get:=by
  have gen:(T.sem q (do eqGuard op t x y a b;binOp op t a b) fun v=>T.unCmp op a v fun v=>kE (setD e o.dst (.val v))).wp X P Q h->Sem.lwp P (do pure (.value (<- (do eqGuard op t x y a b;binOp op t a b)))) (fun nx h'=>Nx P R (mkF fn ds rd tmps (.inRegion ops (i::rest)::k)) cs { h.add hp with get:=h' } nx) (fun _ _=>False) (h.add hp).get :=
    fun hT=>op_sem ho hdst s dj hT (fun v h' hA=>⟨.val v,fun _=>rfl,unCmp_wp hA.2⟩) hk
  have pure':∀ v:Value,(kE (setD e o.dst (.val v))).wp X P Q h->((∃ k m k' n,a=.int k m/\b=.int k' n)\/(∃ m n,a=.bool m/\b=.bool n))->(∀ H,Sem.lwp P (binOp op t a b) (fun v' h'=>v'=v/\h'=H) (fun _ _=>False) H) ->
      Sem.lwp P (do pure (.value (<- (do eqGuard op t x y a b;binOp op t a b)))) (fun nx h'=>Nx P R (mkF fn ds rd tmps (.inRegion ops (i::rest)::k)) cs { h.add hp with get:=h' } nx) (fun _ _=>False) (h.add hp).get:=by
    intro v hT hab hb;refine op_pure ho hdst s dj (a:=.val v) (v:=v) (fun _=>rfl) hT hk ?_;rw[lwp_bind,lwp_bind];refine lwp_eqGuard hab ?_;refine Sem.lwp_mono _ (hb _) ?_ (fun _ _ h=>h);rintro v' h' ⟨rfl,rfl⟩;exact⟨rfl,rfl⟩
  cases a<;>cases b<;>first
    | exact gen hT
    | skip
  case bool.bool m n =>
    have hab:(∃ k m' k' n',Value.bool m=.int k m'/\Value.bool n=.int k' n')\/(∃ m' n',Value.bool m=.bool m'/\Value.bool n=.bool n'):=.inr ⟨_,_,rfl,rfl⟩;simp only[binT]at hT;split at hT
    · rename_i hb
      obtain⟨d,hu⟩ : ∃ d,P.underlying t=some d:=by
        unfold isBoolT at hb;cases hu:P.underlying t with
        | none=>rw[hu]at hb;cases hb
        | some d=>exact⟨d,rfl⟩
      have hd:d=.bool:=by
        unfold isBoolT at hb;rw[hu]at hb;cases d<;>first|rfl|cases hb
      subst hd;refine pure' _ hT hab fun H=>?_;obtain⟨dd,hdd⟩ : ∃ d,Op.maxDepth=d+1:=⟨9999,rfl⟩
      simp only[binOp,Op.equal,lwp_bind,hdd];simp only[Op.equalIn,lwp_bind,lwp_underlying hu,lwp_pure,and_self]
    · rename_i hb
      obtain⟨d,hu⟩ : ∃ d,P.underlying t=some d:=by
        unfold isBoolT at hb;cases hu:P.underlying t with
        | none=>rw[hu]at hb;cases hb
        | some d=>exact⟨d,rfl⟩
      have hd:d=.bool:=by
        unfold isBoolT at hb;rw[hu]at hb;cases d<;>first|rfl|cases hb
      subst hd;refine pure' _ hT hab fun H=>?_;obtain⟨dd,hdd⟩ : ∃ d,Op.maxDepth=d+1:=⟨9999,rfl⟩
      simp only[binOp,Op.equal,lwp_bind,hdd];simp only[Op.equalIn,lwp_bind,lwp_underlying hu,lwp_pure,and_self]
    · exact hT.elim
  case int.int ka m kb n =>
    have hab:(∃ k m' k' n',Value.int ka m=.int k m'/\Value.int kb n=.int k' n')\/(∃ m' n',Value.int ka m=.bool m'/\Value.int kb n=.bool n'):=.inl ⟨_,_,_,_,rfl,rfl⟩;simp only[binT]at hT;split at hT
    · obtain⟨hn,hT⟩:=hT
      refine pure' _ hT hab fun H=>?_;simp only[binOp,Op.shift,if_neg (show ¬ n<0 by omega)];exact⟨rfl,rfl⟩
    · obtain⟨hn,hT⟩:=hT
      refine pure' _ hT hab fun H=>?_;simp only[binOp,Op.shift,if_neg (show ¬ n<0 by omega)];exact⟨rfl,rfl⟩
    · split at hT
      · rename_i hshl hshr hkk
        have:=of_decide_eq_true hkk;subst this;cases op<;>simp only[intOp]at hT<;>first
          | exact hT.elim
          | exact absurd rfl hshl
          | exact absurd rfl hshr
          | (refine pure' _ hT hab fun H=>?_
             simp only[binOp,ne_eq,not_true_eq_false,if_false,Op.intArith,Op.intBits,Op.intCmp];exact⟨rfl,rfl⟩)
          | (obtain⟨hn,hT⟩:=hT
             refine pure' _ hT hab fun H=>?_;simp only[binOp,ne_eq,not_true_eq_false,if_false,Op.intDiv,if_neg hn];exact⟨rfl,rfl⟩)
      · exact hT.elim
theorem lwp_mapM_places{P:Program}{E:Halt->Cells->Prop}{H:Cells}:∀ (fs:List Field) (Q:List (Nat×Nat)->Cells->Prop),(fs.all fun f=>(P.info? f.type).isSome)=true->Q (fs.map fun f=>(f.offset,P.cellsOf f.type)) H ->
  Sem.lwp P (fs.mapM fun f=>do pure (f.offset,<- sizeOf f.type)) Q E H:=by
 intro fs
 induction fs with
 | nil=>intro Q _ hq;exact hq
 | cons f fs ih =>
  intro Q hall hq;simp only[List.all_cons,Bool.and_eq_true]at hall;obtain⟨inf,hi⟩:=Option.isSome_iff_exists.1 hall.1;rw[List.mapM_cons,lwp_bind,lwp_bind,lwp_sizeOf hi,lwp_pure,lwp_bind];refine ih _ hall.2 ?_;rw[lwp_pure];simpa[Program.cellsOf,hi] using hq
theorem lwp_build{P:Program}{t:TypeId}{l:List (Nat×Value)}{v:Value}(hb:buildV P t l=some v){Q:Value->Cells->Prop}{E:Halt->Cells->Prop}{H:Cells}(hq:Q v H):Sem.lwp P (Instr.build t l.toArray) Q E H:=by
 unfold buildV at hb;split at hb
 ·rename_i z fs hz hu;split at hb
  ·rename_i hall;obtain⟨inf,hi,hzz⟩ : ∃ inf,P.info? t=some inf/\inf.zero=some z:=by
    unfold zerosOf at hz;cases hi:P.info? t with
    | none=>rw[hi]at hz;cases hz
    | some inf=>rw[hi]at hz;exact⟨inf,rfl,hz⟩
   unfold Instr.build;rw[lwp_bind,lwp_zeroValue hi hzz,lwp_bind,lwp_underlying hu];simp only;rw[lwp_bind,Array.mapM_eq_mapM_toList,<- bind_pure_comp,lwp_bind];refine lwp_mapM_places fs.toList _ hall ?_;rw[lwp_pure];cases hf:Instr.fill (fun i:Nat=>(fs[i]?).map fun (f:Field)=>(f.offset,P.cellsOf f.type)) z.cells l with
   | none=>rw[hf]at hb;cases hb
   | some cells =>
    rw[hf]at hb;cases hb;have e2:(fun i:Nat=>((List.map (fun f:Field=>(f.offset,P.cellsOf f.type)) fs.toList).toArray)[i]?)=(fun i:Nat=>(fs[i]?).map fun (f:Field)=>(f.offset,P.cellsOf f.type)):=by
     funext i;simp
    rw[e2];simp only[hf];exact hq
  ·cases hb
 ·rename_i z n el hz hu;split at hb
  ·rename_i inf' hi';obtain⟨inf,hi,hzz⟩ : ∃ inf,P.info? t=some inf/\inf.zero=some z:=by
    unfold zerosOf at hz;cases hi:P.info? t with
    | none=>rw[hi]at hz;cases hz
    | some inf=>rw[hi]at hz;exact⟨inf,rfl,hz⟩
   unfold Instr.build;rw[lwp_bind,lwp_zeroValue hi hzz,lwp_bind,lwp_underlying hu];simp only;rw[lwp_bind,lwp_sizeOf hi'];cases hf:Instr.fill (fun j=>some (j*inf'.size,inf'.size)) z.cells l with
   | none=>rw[hf]at hb;cases hb
   | some cells =>
    rw[hf]at hb;cases hb;simp only[hf];exact hq
  ·cases hb
 ·cases hb
end
end
section
section
variable {X:XP} {C:Ctx} {main:Bool} {R:Goroutine->LH->Prop}
variable {o:Oper} {ops:Array Oper} {i:Nat} {rest:List Nat} {k:List Item} {cs:List Frame} {fn:FI} {ds:List Deferred} {rd:Option Nat}
 {σ:Nat->Nat} {ro:List Nat} {PB:Nat->Prop} {e:Env} {tmps:Array Value} {hp:Cells} {h:LH} {kE:Env->T} {Q:Leaf->LH->Prop} {q:Bool}
theorem onesT_wp{P:Program}{l:List Value}{kk:T}{h:LH}(hw:(onesT l kk).wp X P Q h):(∀ v∈l,isOne v=true)/\kk.wp X P Q h:=by
 induction l with
 | nil=>exact⟨by simp,hw⟩
 | cons v l ih =>
  rw[onesT]at hw;cases hv:isOne v with
  | false=>rw[hv]at hw;exact hw.elim
  | true =>
   rw[hv]at hw;obtain⟨h1,h2⟩:=ih hw;refine⟨fun w hw'=>?_,h2⟩;rcases List.mem_cons.1 hw' with rfl|hw'
   ·exact hv
   ·exact h1 w hw'
theorem runT_underlying{β:Type}{P:Program}{t:TypeId}{d:TypeDesc}(hu:P.underlying t=some d){f:TypeDesc->Sem β}{w:World}{es:Array Event}:(underlying t >>= f).runT P w es=(f d).runT P w es:=by
 show ((match P.underlying t with | some d => pure d | none => stuck "no such type" : Sem TypeDesc) >>= f).runT P w es = _
 rw[hu];rfl
theorem runT_zeroValue{β:Type}{P:Program}{t:TypeId}{i:TypeInfo}{z:Value}(hi:P.info? t=some i)(hz:i.zero=some z){f:Value->Sem β}{w:World}{es:Array Event}:(zeroValue t >>= f).runT P w es=(f z).runT P w es:=by
 show (((match P.info? t with | some i => pure i | none => stuck "no such type" : Sem TypeInfo) >>= fun i => (match i.zero with | some v => pure v | none => unsupported (.resourceLimit "a value of more than 2^22 cells") : Sem Value)) >>= f).runT P w es = _
 rw[hi]
 show ((match i.zero with | some v => pure v | none => unsupported (.resourceLimit "a value of more than 2^22 cells") : Sem Value) >>= f).runT P w es = _
 rw[hz];rfl
theorem seen_nil{P:Program}{f:FuncId}:seen P f #[]=#[]:=by simp[seen]
theorem unNext_wp{P:Program}{v:Value}{k:Value->T}{Q:Leaf->LH->Prop}{h:LH}(hw:(T.unNext v k).wp X P Q h):(k v).wp X P Q h:=by
 unfold T.unNext at hw;cases v<;>simp only[T.unTup]at hw<;>first|exact hw.elim|skip
 rename_i cs;have e:cs=cs.toList.toArray:=by simp
 cases hl:cs.toList with
 | nil=>rw[hl]at hw;exact hw.elim
 | cons b l =>
  rw[hl]at hw e;simp only[T.unCons]at hw;cases b<;>simp only[T.unB]at hw<;>first|exact hw.elim|skip
  rename_i b;cases b with
  | false =>
   obtain⟨rfl,hw⟩:=unNil_wp hw;rw[e];exact hw
  | true =>
   have:=unShs_wp hw;rw[e];exact this
theorem selT_wp{P:Program}{C:Ctx}{e:Env}{h:LH}:∀ {l:List SelectCase} {kk:List CommCase->List Shape->T},(selT C e l kk).wp X P Q h ->
  ∃ cs ss,(∀ (ρ:Operand->Value),(∀ x v,opdA e x=some (.val v)->ρ x=v)->∀ (w:World),(do
   let cases <- l.toArray.mapM fun s=>do pure { chan:=ρ s.chan,send:=s.send.map ρ,zero:=<- zeroValue s.elem:CommCase }
   pure (.comm cases true .select):Sem Next).runT C.P w #[]=(.ok (.comm cs.toArray true .select) w,#[]))/\(kk cs ss).wp X P Q h:=by
 have key:∀ {l:List SelectCase} {kk:List CommCase->List Shape->T},(selT C e l kk).wp X P Q h ->
  ∃ cs ss,(∀ (ρ:Operand->Value),(∀ x v,opdA e x=some (.val v)->ρ x=v)->∀ {β:Type} (f:List CommCase->Sem β) (w:World),((l.mapM fun s=>do pure { chan:=ρ s.chan,send:=s.send.map ρ,zero:=<- zeroValue s.elem:CommCase }) >>= f).runT C.P w #[]=(f cs).runT C.P w #[])/\(kk cs ss).wp X P Q h:=by
  intro l
  induction l with
  | nil=>intro kk hw;exact⟨[],[],fun ρ _ β f w=>by simp,hw⟩
  | cons s l ih =>
   intro kk hw;rw[selT]at hw;split at hw
   ·rename_i z sh hs hz hsh;obtain⟨c,hc,hw⟩:=withV_wp hw;obtain⟨inf,hi,hzz⟩ : ∃ inf,C.P.info? s.elem=some inf/\inf.zero=some z:=by
     unfold zerosOf at hz;cases hi:C.P.info? s.elem with
     | none=>rw[hi]at hz;cases hz
     | some inf=>rw[hi]at hz;exact⟨inf,rfl,hz⟩
    obtain⟨cs,ss,h1,h2⟩:=ih hw;refine⟨{ chan:=c,send:=none,zero:=z }::cs,sh::ss,fun ρ hρ β f w=>?_,h2⟩;rw[List.mapM_cons];simp only[bind_assoc,pure_bind];rw[runT_zeroValue hi hzz,h1 ρ hρ,hs,hρ _ _ hc];rfl
   ·exact hw.elim
 intro l kk hw;obtain⟨cs,ss,h1,h2⟩:=key hw;refine⟨cs,ss,fun ρ hρ w=>?_,h2⟩;have e1:∀ (f:SelectCase->Sem CommCase),(l.toArray.mapM f >>= fun cases=>(pure (.comm cases true .select):Sem Next))=(l.mapM f >>= fun x=>pure (.comm x.toArray true .select)):=by
  intro f;rw[Array.mapM_eq_mapM_toList];simp only[<- bind_pure_comp,bind_assoc,pure_bind]
 have:=h1 ρ hρ (fun l=>(pure (.comm l.toArray true .select):Sem Next)) w;rw[e1];exact this
theorem opT_sound{fin:Bool}(hX:XOK X)(hR:Closed X C.P main R)(hst:X.stk C.P fn.kd cs)(hfin:fin=true->rest=[]/\k=[]/\ds=[]/\rd=none/\fn.kd=.deferred/\∃ fd,C.P.funcs[fn.fn]?=some fd/\fd.results=#[])(ho:ops[i]?=some o)(hw:Region.wanted o (yielded ops tmps)=true)(hdst:∀ d,o.dst=some d->d<tmps.size/\d<4096)
 (s:Sim σ ro PB e tmps hp)(dj:Disj h.get hp)(hPB:∀ b,PB b->∃ x,hp b=some x)(hT:(opT C fin ro q o e kE).wp X C.P Q h)
 (hk:Behind X C.P R fn ds rd cs (.inRegion ops rest::k) o.dst.toList ro PB σ tmps hp kE Q) :
  R (G (mkF fn ds rd tmps (.inRegion ops (i::rest)::k)) cs) (h.add hp):=by
 have hE:=fun (x:Operand) (a:AV) (hx:opdA e x=some a) (hb:a≠.bad)=>s.eval (fn:=fn) (ds:=ds) (rd:=rd) (k:=.inRegion ops (i::rest)::k) hx hb;have hV:=opdVal s (fr:=mkF fn ds rd tmps (.inRegion ops (i::rest)::k)) rfl;unfold opT at hT;cases hop:o.op<;>rw[hop]at hT<;>simp only at hT
 case move x =>
  refine step_op hR.1 ho hw (by simp[notDefer,hop]) ?_;obtain⟨a,ha,hT⟩:=withA_wp hT;simp only[execOp,hop];refine op_pure ho hdst s dj (a:=a) (v:=(mkF fn ds rd tmps (.inRegion ops (i::rest)::k)).eval x) (fun hb=>hE x a ha hb) hT hk ?_;exact⟨rfl,rfl⟩
 case assign x =>
  refine step_op hR.1 ho hw (by simp[notDefer,hop]) ?_;obtain⟨a,ha,hT⟩:=withA_wp hT;simp only[execOp,hop];refine op_pure ho hdst s dj (a:=a) (v:=(mkF fn ds rd tmps (.inRegion ops (i::rest)::k)).eval x) (fun hb=>hE x a ha hb) hT hk ?_;exact⟨rfl,rfl⟩
 case pick c x y =>
  refine step_op hR.1 ho hw (by simp[notDefer,hop]) ?_;obtain⟨v,hv,hT⟩:=withV_wp hT;cases v<;>simp only[T.unB]at hT<;>first|exact hT.elim|skip
  rename_i b;simp only[execOp,hop];rw[hV c _ hv];cases b
  ·obtain⟨a,ha,hT⟩:=withA_wp hT;refine op_pure ho hdst s dj (a:=a) (v:=(mkF fn ds rd tmps (.inRegion ops (i::rest)::k)).eval y) (fun hb=>hE y a ha hb) hT hk ?_;exact⟨rfl,rfl⟩
  ·obtain⟨a,ha,hT⟩:=withA_wp hT;refine op_pure ho hdst s dj (a:=a) (v:=(mkF fn ds rd tmps (.inRegion ops (i::rest)::k)).eval x) (fun hb=>hE x a ha hb) hT hk ?_;exact⟨rfl,rfl⟩
 case alloc el =>
  refine step_op hR.1 ho hw (by simp[notDefer,hop]) ?_;simp only[execOp,hop];cases hd:o.dst with
  | none=>rw[hd]at hT;exact hT.elim
  | some d =>
   rw[hd]at hT;cases hz:zerosOf C.P el with
   | none=>rw[hz]at hT;exact hT.elim
   | some z =>
    rw[hz]at hT;obtain⟨inf,hi,hzz⟩ : ∃ inf,C.P.info? el=some inf/\inf.zero=some z:=by
     unfold zerosOf at hz;cases hi:C.P.info? el with
     | none=>rw[hi]at hz;cases hz
     | some inf=>rw[hi]at hz;exact⟨inf,rfl,hz⟩
    simp only at hT;rw[lwp_bind];unfold Instr.alloc;rw[lwp_bind,lwp_zeroValue hi hzz];simp only;rw[lwp_bind];unfold newVar newRow;rw[lwp_bind];intro r hr;have hr1:h.get r=none:=by
     cases hx:h.get r with
     | none=>rfl
     | some x=>rw[show (h.add hp).get r=some x from Cells.add_left hx]at hr;cases hr
    have hr2:hp r=none:=by
     have:=hr;rw[show (h.add hp).get r=hp r from Cells.add_right hr1]at this;exact this
    show Nx C.P R _ cs { h.add hp with get:=(h.get.add hp).upd r (true,.cells z.cells el) } (.value (.pointer (some ⟨r,0,none⟩)));obtain⟨h1,h2⟩:=hdst d hd;cases hm:memN C.priv d with
    | true =>
     rw[hm]at hT;simp only at hT;split at hT
     ·rename_i hro hle;have hsz:z.cells.size<=4095:=by
       have:=Nat.le_of_ble_eq_true hle;rw[lenL_eq,cellsL_eq]at this;simpa using this
      obtain⟨s',f'⟩:=s.make (v:=z) (el:=el) h1 h2 (memN_false.1 hro) hr2 hPB hsz;show R (G ((mkF fn ds rd tmps (.inRegion ops (i::rest)::k)).finish _) cs) _;rw[finish_mkF ho,hd];have e2:({ h.add hp with get:=(h.get.add hp).upd r (true,.cells z.cells el) }:LH)=h.add (hp.upd r (true,.cells z.cells el (0,0))):=by
       unfold LH.add;simp only[LH.mk.injEq,and_self,and_true];funext x;unfold Cells.upd Cells.add;by_cases e':x=r
       ·subst e';simp[hr1]
       ·simp[e']
      rw[e2];refine hk _ _ _ _ h s' ?_ (by rw[hd];exact f') hT;intro x;by_cases e':x=r
      ·subst e';exact .inl hr1
      ·rw[Cells.upd_ne _ _ e'];exact dj x
     ·exact hT.elim
    | false =>
     rw[hm]at hT;simp only[T.wp]at hT;have hT:=hT r hr1;have e2:({ h.add hp with get:=(h.get.add hp).upd r (true,.cells z.cells el) }:LH)=({ h with get:=h.get.upd r (true,.cells z.cells el) }:LH).add hp:=by
      unfold LH.add;simp only[LH.mk.injEq,and_self,and_true];funext x;unfold Cells.upd Cells.add;by_cases e':x=r<;>simp[e']
     show R (G ((mkF fn ds rd tmps (.inRegion ops (i::rest)::k)).finish _) cs) _;rw[e2];refine fin_val (h':={ h with get:=h.get.upd r (true,.cells z.cells el) }) ho hdst s ?_ (a:=.val (.pointer (some ⟨r,0,none⟩))) (fun _=>rfl) (by rw[hd];exact hT) hk;intro x;by_cases e':x=r
     ·subst e';exact .inr hr2
     ·show Cells.upd h.get r (true,.cells z.cells el) x=none\/hp x=none;rw[Cells.upd_ne _ _ e'];exact dj x
 case box el x =>
  refine step_op hR.1 ho hw (by simp[notDefer,hop]) ?_;simp only[execOp,hop];obtain⟨z,hz,hT⟩:=withV_wp hT;rw[hV x _ hz];cases hd:o.dst with
  | none=>rw[hd]at hT;exact hT.elim
  | some d =>
   rw[hd]at hT;simp only at hT;rw[lwp_bind];unfold Instr.box;rw[lwp_bind];unfold newVar newRow;rw[lwp_bind];intro r hr;have hr1:h.get r=none:=by
    cases hx:h.get r with
    | none=>rfl
    | some x=>rw[show (h.add hp).get r=some x from Cells.add_left hx]at hr;cases hr
   have hr2:hp r=none:=by
    have:=hr;rw[show (h.add hp).get r=hp r from Cells.add_right hr1]at this;exact this
   show Nx C.P R _ cs { h.add hp with get:=(h.get.add hp).upd r (true,.cells z.cells el) } (.value (.pointer (some ⟨r,0,none⟩)));obtain⟨h1,h2⟩:=hdst d hd;cases hm:memN C.priv d with
   | true =>
    rw[hm]at hT;simp only at hT;split at hT
    ·rename_i hro hle;have hsz:z.cells.size<=4095:=by
      have:=Nat.le_of_ble_eq_true hle;rw[lenL_eq,cellsL_eq]at this;simpa using this
     obtain⟨s',f'⟩:=s.make (v:=z) (el:=el) h1 h2 (memN_false.1 hro) hr2 hPB hsz;show R (G ((mkF fn ds rd tmps (.inRegion ops (i::rest)::k)).finish _) cs) _;rw[finish_mkF ho,hd];have e2:({ h.add hp with get:=(h.get.add hp).upd r (true,.cells z.cells el) }:LH)=h.add (hp.upd r (true,.cells z.cells el (0,0))):=by
      unfold LH.add;simp only[LH.mk.injEq,and_self,and_true];funext x;unfold Cells.upd Cells.add;by_cases e':x=r
      ·subst e';simp[hr1]
      ·simp[e']
     rw[e2];refine hk _ _ _ _ h s' ?_ (by rw[hd];exact f') hT;intro x;by_cases e':x=r
     ·subst e';exact .inl hr1
     ·rw[Cells.upd_ne _ _ e'];exact dj x
    ·exact hT.elim
   | false =>
    rw[hm]at hT;simp only[T.wp]at hT;have hT:=hT r hr1;have e2:({ h.add hp with get:=(h.get.add hp).upd r (true,.cells z.cells el) }:LH)=({ h with get:=h.get.upd r (true,.cells z.cells el) }:LH).add hp:=by
     unfold LH.add;simp only[LH.mk.injEq,and_self,and_true];funext x;unfold Cells.upd Cells.add;by_cases e':x=r<;>simp[e']
    show R (G ((mkF fn ds rd tmps (.inRegion ops (i::rest)::k)).finish _) cs) _;rw[e2];refine fin_val (h':={ h with get:=h.get.upd r (true,.cells z.cells el) }) ho hdst s ?_ (a:=.val (.pointer (some ⟨r,0,none⟩))) (fun _=>rfl) (by rw[hd];exact hT) hk;intro x;by_cases e':x=r
    ·subst e';exact .inr hr2
    ·show Cells.upd h.get r (true,.cells z.cells el) x=none\/hp x=none;rw[Cells.upd_ne _ _ e'];exact dj x
 case nilCheck x =>
  refine step_op hR.1 ho hw (by simp[notDefer,hop]) ?_;simp only[execOp,hop];split at hT
  ·rename_i b j hx;rw[show (mkF fn ds rd tmps (.inRegion ops (i::rest)::k)).eval x=.pointer (some ⟨σ b,j,none⟩) from hE x _ hx (by simp)];exact op_pure ho hdst s dj (a:=.pp b j) (v:=.pointer (some ⟨σ b,j,none⟩)) (fun _=>rfl) hT hk ⟨rfl,rfl⟩
  ·rename_i p hx;obtain⟨a,rfl,hT⟩:=hT;rw[hV x _ hx];exact op_pure ho hdst s dj (a:=.val (.pointer (some a))) (v:=.pointer (some a)) (fun _=>rfl) hT hk ⟨rfl,rfl⟩
  ·exact hT.elim
 case makeFunc f fs cs' =>
  refine step_op hR.1 ho hw (by simp[notDefer,hop]) ?_;simp only[execOp,hop];obtain⟨l,hl,hT⟩:=withVs_wp hT;obtain⟨m,hm,hT⟩:=withVs_wp hT;rw[map_toList _ fs (hl _ hV),map_toList _ cs' (hm _ hV)];exact op_pure ho hdst s dj (a:=.val (.func f l.toArray m.toArray)) (v:=.func f l.toArray m.toArray) (fun _=>rfl) hT hk ⟨rfl,rfl⟩
 case makeInterface t x =>
  refine step_op hR.1 ho hw (by simp[notDefer,hop]) ?_;simp only[execOp,hop];obtain⟨z,hz,hT⟩:=withV_wp hT;rw[hV x _ hz];cases hu:C.P.underlying t with
  | none=>rw[hu]at hT;exact hT.elim
  | some d =>
   rw[hu]at hT;have:(kE (setD e o.dst (.val (.iface t z)))).wp X C.P Q h/\∀ ms,d≠.interface ms:=by
    cases d<;>first|exact⟨hT,by simp⟩|exact hT.elim
   refine op_pure ho hdst s dj (a:=.val (.iface t z)) (v:=.iface t z) (fun _=>rfl) this.1 hk ?_;rw[lwp_bind];unfold Instr.makeInterface;rw[lwp_bind,lwp_underlying hu];cases d<;>first|exact⟨rfl,rfl⟩|exact absurd rfl (this.2 _)
 case extract x j =>
  refine step_op hR.1 ho hw (by simp[notDefer,hop]) ?_;simp only[execOp,hop];split at hT
  ·rename_i vs hx;split at hT
   ·rename_i v hv;rw[hV x _ hx];refine op_pure ho hdst s dj (a:=.val v) (v:=v) (fun _=>rfl) (shaped_wp hT) hk ?_;simp only[Instr.extract,hv];exact⟨rfl,rfl⟩
   ·exact hT.elim
  ·exact hT.elim
 case fieldAddr st x f =>
  refine step_op hR.1 ho hw (by simp[notDefer,hop]) ?_;simp only[execOp,hop];have key:∀ off,offOf C.P st f=some off->∀ a:Addr,∀ (H:Cells),Sem.lwp C.P (do pure (Next.value (<- Instr.fieldAt st (.pointer (some a)) f))) (fun nx h'=>nx=Next.value (.pointer (some (a.add off)))/\h'=H) (fun _ _=>False) H:=by
   intro off hoff a H;unfold offOf at hoff;split at hoff
   ·rename_i fs hu;split at hoff
    ·rename_i fd hfd;split at hoff
     ·cases hoff
     ·rename_i n hn;cases hoff;have hinf:∃ inf,C.P.info? fd.type=some inf/\inf.size=n+1:=by
       unfold Program.cellsOf at hn;cases hi:C.P.info? fd.type with
       | none=>rw[hi]at hn;cases hn
       | some inf=>rw[hi]at hn;exact⟨inf,rfl,hn⟩
      obtain⟨inf,hi,hsz⟩:=hinf;rw[lwp_bind];unfold Instr.fieldAt;rw[lwp_bind,lwp_underlying hu];simp only[hfd,Instr.sureAddr,lwp_bind,lwp_pure,fieldPlace,lwp_sizeOf hi];rw[if_neg (by omega)];exact⟨rfl,rfl⟩
    ·cases hoff
   ·cases hoff
  split at hT
  ·rename_i off b j hoff hx;rw[show (mkF fn ds rd tmps (.inRegion ops (i::rest)::k)).eval x=.pointer (some ⟨σ b,j,none⟩) from hE x _ hx (by simp)];refine op_pure ho hdst s dj (a:=.pp b (j+off)) (v:=.pointer (some (Addr.add ⟨σ b,j,none⟩ off))) (fun _=>by rw[add0];rfl) hT hk (key off hoff _ _)
  ·rename_i off a hoff hx;rw[hV x _ hx];exact op_pure ho hdst s dj (a:=.val (.pointer (some (a.add off)))) (v:=.pointer (some (a.add off))) (fun _=>rfl) hT hk (key off hoff _ _)
  ·exact hT.elim
 case indexAddr t x j =>
  refine step_op hR.1 ho hw (by simp[notDefer,hop]) ?_;simp only[execOp,hop];split at hT
  ·rename_i el p n c kk m hu hx hj;split at hT
   ·rename_i z hz;obtain⟨⟨hm1,hm2⟩,a,rfl,hT⟩:=hT;rw[hV x _ hx,hV j _ hj];obtain⟨inf,hi,hsz⟩ : ∃ inf,C.P.info? el=some inf/\inf.size=z:=by
     unfold sizeT at hz;cases hi:C.P.info? el with
     | none=>rw[hi]at hz;cases hz
     | some inf=>rw[hi]at hz;cases hz;exact⟨inf,rfl,rfl⟩
    refine op_pure ho hdst s dj (a:=.val (.pointer (some (a.add (m.toNat*z))))) (v:=.pointer (some (a.add (m.toNat*z)))) (fun _=>rfl) hT hk ?_;rw[lwp_bind];unfold Instr.indexAt;simp only[asIntOf,lwp_bind,lwp_pure,lwp_underlying hu];rw[if_pos ⟨hm1,hm2⟩];simp only[lwp_bind,lwp_pure,lwp_sizeOf hi,hsz,and_self]
   ·exact hT.elim
  ·rename_i n el a kk m hu hx hj;split at hT
   ·rename_i z hz;obtain⟨⟨hm1,hm2⟩,hT⟩:=hT;rw[hV x _ hx,hV j _ hj];obtain⟨inf,hi,hsz⟩ : ∃ inf,C.P.info? el=some inf/\inf.size=z:=by
     unfold sizeT at hz;cases hi:C.P.info? el with
     | none=>rw[hi]at hz;cases hz
     | some inf=>rw[hi]at hz;cases hz;exact⟨inf,rfl,rfl⟩
    refine op_pure ho hdst s dj (a:=.val (.pointer (some (a.add (m.toNat*z))))) (v:=.pointer (some (a.add (m.toNat*z)))) (fun _=>rfl) hT hk ?_;rw[lwp_bind];unfold Instr.indexAt;simp only[asIntOf,lwp_bind,lwp_pure,lwp_underlying hu,Instr.sureAddr];rw[if_pos ⟨hm1,hm2⟩];simp only[lwp_bind,lwp_pure,lwp_sizeOf hi,hsz,and_self]
   ·exact hT.elim
  ·exact hT.elim
 case load t x =>
  refine step_op hR.1 ho hw (by simp[notDefer,hop]) ?_;simp only[execOp,hop];split at hT
  ·rename_i b j hx;rw[show (mkF fn ds rd tmps (.inRegion ops (i::rest)::k)).eval x=.pointer (some ⟨σ b,j,none⟩) from hE x _ hx (by simp)];split at hT
   ·rename_i v hl;refine op_pure ho hdst s dj (a:=.val v) (v:=v) (fun _=>rfl) hT hk ?_;rw[lwp_bind];unfold Instr.loadAt;simp only[Instr.sureAddr,lwp_bind,lwp_pure];exact lwp_privLoad s dj hl ⟨rfl,rfl⟩
   ·exact hT.elim
  ·rename_i a hx;rw[hV x _ hx];split at hT
   ·rename_i ks hagg hks;split at hT
    ·rename_i hlen;obtain⟨l,h1,h2,hT⟩:=loadL_wp hT;refine op_pure ho hdst s dj (a:=.val (.agg l.toArray)) (v:=.agg l.toArray) (fun _=>rfl) hT hk ?_;rw[lwp_bind];unfold Instr.loadAt;simp only[Instr.sureAddr,lwp_bind,lwp_pure];refine lwp_loadVar_agg hagg (by rw[h1,<- lenL_eq];exact nbeq_true hlen) (fun t v hv=>?_) ⟨rfl,rfl⟩;have:=h2 t v hv;rw[Nat.zero_add]at this;exact Cells.cell?_le (Cells.le_add _ _) this
    ·exact hT.elim
   ·rename_i kd hagg hks;obtain⟨v,h1,hT⟩:=loadK_wp hT;obtain⟨dd,hu⟩:=kindsF_some hks;refine op_pure ho hdst s dj (a:=.val v) (v:=v) (fun _=>rfl) hT hk ?_;rw[lwp_bind];unfold Instr.loadAt;simp only[Instr.sureAddr,lwp_bind,lwp_pure];exact lwp_loadVar_one hu hagg (Cells.cell?_le (Cells.le_add _ _) h1) ⟨rfl,rfl⟩
   ·exact hT.elim
  ·exact hT.elim
 case store t a x =>
  refine step_op hR.1 ho hw (by simp[notDefer,hop]) ?_;simp only[execOp,hop];obtain⟨v,hv,hT⟩:=withV_wp hT;rw[hV x _ hv];cases hz:sizeT C.P t with
  | none=>rw[hz]at hT;exact hT.elim
  | some z =>
   rw[hz]at hT;obtain⟨inf,hi,hsz⟩ : ∃ inf,C.P.info? t=some inf/\inf.size=z:=by
    unfold sizeT at hz;cases hi:C.P.info? t with
    | none=>rw[hi]at hz;cases hz
    | some inf=>rw[hi]at hz;cases hz;exact⟨inf,rfl,rfl⟩
   simp only at hT;split at hT
   ·rename_i hlen;have hlen:=nbeq_true hlen;rw[lenL_eq,cellsL_eq]at hlen;have hsz':¬ (v.cells.size≠inf.size):=by rw[hsz,<- hlen];simp
    have fin:∀ (A:Addr) (H:Cells) (Qf:Unit->Cells->Prop),Sem.lwp C.P (storeCells A (cellsL v) 0) Qf (fun _ _=>False) H->Sem.lwp C.P (do Instr.storeAt t (.pointer (some A)) v;pure Next.skip) (fun nx h'=>nx=Next.skip/\Qf () h') (fun _ _=>False) H:=by
     intro A H Qf hs;rw[lwp_bind];unfold Instr.storeAt;rw[lwp_bind];simp only[Instr.sureAddr,lwp_pure,storeVar,lwp_bind,lwp_sizeOf hi];rw[if_neg hsz',<- cellsL_eq];refine Sem.lwp_mono _ hs (fun _ _ h=>⟨trivial,h⟩) (fun _ _ h=>h)
    split at hT
    ·rename_i b j ha;rw[show (mkF fn ds rd tmps (.inRegion ops (i::rest)::k)).eval a=.pointer (some ⟨σ b,j,none⟩) from hE a _ ha (by simp)];split at hT
     ·rename_i l hro hle hpc;obtain⟨hone,hT⟩:=onesT_wp hT;have hle:=Nat.le_of_ble_eq_true hle;have hlen':(cellsL v).length=z:=by rw[cellsL_eq];exact hlen
      rw[<- hlen']at hpc hle;refine Sem.lwp_mono _ (fin _ _ (fun _ H=>Nx C.P R (mkF fn ds rd tmps (.inRegion ops (i::rest)::k)) cs { h.add hp with get:=H } .skip) ?_) ?_ (fun _ _ h=>h)
      ·refine s.store dj (memN_false.1 hro) hpc hle hone ?_;intro hp' s' dj' f';show R (G ((mkF fn ds rd tmps (.inRegion ops (i::rest)::k)).finish undef) cs) (h.add hp');refine fin_val (h':=h) ho hdst s' dj' (a:=.val undef) (fun _=>rfl) hT ?_;intro e'' t'' σ'' hp'' h'' s'' dj'' f'' hT'';exact hk e'' t'' σ'' hp'' h'' s'' dj'' (f'.trans f'' (by simp) (fun _ h=>h)) hT''
      ·rintro nx h' ⟨rfl,hq⟩;exact hq
     ·exact hT.elim
    ·rename_i a' ha;rw[hV a _ ha];have:=storeL_wp hT;have:=Sem.lwp_mono _ (lwp_frame _ this dj) (fun _ _ h=>h) (E':=fun _ _=>False) (by rintro _ _ ⟨_,_,_,hf⟩;exact hf.elim);refine Sem.lwp_mono _ (fin _ _ _ this) ?_ (fun _ _ h=>h);rintro nx h₂ ⟨rfl,h',d',rfl,hw'⟩;exact fin_val (h':={ h with get:=h' }) ho hdst s d' (a:=.val undef) (v:=undef) (fun _=>rfl) hw' hk
    ·exact hT.elim
   ·exact hT.elim
 case binOp op t x y yt =>
  refine step_op hR.1 ho hw (by simp[notDefer,hop]) ?_;simp only[execOp,hop];obtain⟨a,ha,hT⟩:=withV_wp hT;obtain⟨b,hb,hT⟩:=withV_wp hT;rw[hV x _ ha,hV y _ hb];exact binT_sound ho hdst s dj hT hk
 case unOp op t x =>
  refine step_op hR.1 ho hw (by simp[notDefer,hop]) ?_;simp only[execOp,hop];obtain⟨a,ha,hT⟩:=withV_wp hT;rw[hV x _ ha];cases op<;>cases a<;>simp only at hT<;>first
   | exact op_pure ho hdst s dj (a:=.val (.bool _)) (v:=.bool _) (fun _=>rfl) hT hk ⟨rfl,rfl⟩
   | exact op_sem ho hdst s dj hT (fun v h' hA=>⟨.val v,fun _=>rfl,hA.2⟩) hk
 case build t ps =>
  refine step_op hR.1 ho hw (by simp[notDefer,hop]) ?_;simp only[execOp,hop];obtain⟨l,hl,hT⟩:=withParts_wp hT;rw[map_toList _ ps (hl _ hV)];split at hT
  ·split at hT
   ·rename_i v hb;refine op_pure ho hdst s dj (a:=.val v) (v:=v) (fun _=>rfl) hT hk ?_;rw[lwp_bind];exact lwp_build hb ⟨rfl,rfl⟩
   ·exact hT.elim
  ·exact op_sem ho hdst s dj hT (fun v h' hA=>⟨.val v,fun _=>rfl,hA.2⟩) hk
 case buildSlice t n ps =>
  refine step_op hR.1 ho hw (by simp[notDefer,hop]) ?_;simp only[execOp,hop];obtain⟨l,hl,hT⟩:=withParts_wp hT;rw[map_toList _ ps (hl _ hV)];exact op_sem ho hdst s dj hT (fun v h' hA=>⟨.val v,fun _=>rfl,un_wp (kd:=.slice) (k:=fun v=>kE (setD e o.dst (.val v))) hA.2⟩) hk
 case field t x f =>
  refine step_op hR.1 ho hw (by simp[notDefer,hop]) ?_;simp only[execOp,hop];obtain⟨a,ha,hT⟩:=withV_wp hT;rw[hV x _ ha];split at hT
  ·rename_i fs cs' hu;split at hT
   ·rename_i fd hfd;split at hT
    ·rename_i hagg;refine op_pure ho hdst s dj (a:=.val _) (v:=_) (fun _=>rfl) hT hk ?_;obtain⟨d,hu',⟨inf,hi,hz⟩,_⟩:=isAggT_true hagg;simp only[lwp_bind,Instr.field,lwp_underlying hu,hfd,asAgg,lwp_pure,part,lwp_isAgg_true hagg,if_true,lwp_sizeOf hi,hz];exact⟨rfl,trivial⟩
    ·rename_i hagg;split at hT
     ·rename_i dd v hu' hv;refine op_pure ho hdst s dj (a:=.val v) (v:=v) (fun _=>rfl) hT hk ?_;simp[lwp_bind,Instr.field,lwp_underlying hu,hfd,asAgg,lwp_pure,part,lwp_isAgg_false hu' hagg,hv]
     ·exact hT.elim
   ·exact hT.elim
  ·exact hT.elim
 case index t x j =>
  refine step_op hR.1 ho hw (by simp[notDefer,hop]) ?_;simp only[execOp,hop];obtain⟨a,ha,hT⟩:=withV_wp hT;obtain⟨b,hb,hT⟩:=withV_wp hT;rw[hV x _ ha,hV j _ hb];split at hT
  ·exact op_sem ho hdst s dj hT (fun v h' hA=>⟨.val v,fun _=>rfl,un_wp (kd:=.int .u8) (k:=fun v=>kE (setD e o.dst (.val v))) hA.2⟩) hk
  ·split at hT
   ·exact op_sem ho hdst s dj hT (fun v h' hA=>⟨.val v,fun _=>rfl,un_wp (kd:=.int _) (k:=fun v=>kE (setD e o.dst (.val v))) hA.2⟩) hk
   ·exact op_sem ho hdst s dj hT (fun v h' hA=>⟨.val v,fun _=>rfl,hA.2⟩) hk
  ·exact op_sem ho hdst s dj hT (fun v h' hA=>⟨.val v,fun _=>rfl,hA.2⟩) hk
 case range t x =>
  refine step_op hR.1 ho hw (by simp[notDefer,hop]) ?_;simp only[execOp,hop];obtain⟨a,ha,hT⟩:=withV_wp hT;rw[hV x _ ha];exact op_sem ho hdst s dj hT (fun v h' hA=>⟨.val v,fun _=>rfl,un_wp (kd:=.ptr) (k:=fun v=>kE (setD e o.dst (.val v))) hA.2⟩) hk
 case next it str =>
  refine step_op hR.1 ho hw (by simp[notDefer,hop]) ?_;simp only[execOp,hop];obtain⟨a,ha,hT⟩:=withV_wp hT;rw[hV it _ ha];exact op_sem ho hdst s dj hT (fun v h' hA=>⟨.val v,fun _=>rfl,unNext_wp (k:=fun v=>kE (setD e o.dst (.val v))) hA.2⟩) hk
 case entry it =>
  refine step_op hR.1 ho hw (by simp[notDefer,hop]) ?_;simp only[execOp,hop];obtain⟨a,ha,hT⟩:=withV_wp hT;rw[hV it _ ha];exact op_sem ho hdst s dj hT (fun v h' hA=>⟨.val v,fun _=>rfl,unTup_wp (k:=fun v=>kE (setD e o.dst (.val v))) hA.2⟩) hk
 case makeMap t r =>
  refine step_op hR.1 ho hw (by simp[notDefer,hop]) ?_;simp only[execOp,hop];cases r with
  | none=>exact op_sem ho hdst s dj hT (fun v h' hA=>⟨.val v,fun _=>rfl,un_wp (kd:=.map) (k:=fun v=>kE (setD e o.dst (.val v))) hA.2⟩) hk
  | some x =>
   obtain⟨a,ha,hT⟩:=withV_wp hT;simp only[Option.map_some];rw[hV x _ ha];exact op_sem ho hdst s dj hT (fun v h' hA=>⟨.val v,fun _=>rfl,un_wp (kd:=.map) (k:=fun v=>kE (setD e o.dst (.val v))) hA.2⟩) hk
 case makeChan t x =>
  refine step_op hR.1 ho hw (by simp[notDefer,hop]) ?_;simp only[execOp,hop];obtain⟨a,ha,hT⟩:=withV_wp hT;rw[hV x _ ha];exact op_sem ho hdst s dj hT (fun v h' hA=>⟨.val v,fun _=>rfl,un_wp (kd:=.chan) (k:=fun v=>kE (setD e o.dst (.val v))) hA.2⟩) hk
 case makeSlice t x y =>
  refine step_op hR.1 ho hw (by simp[notDefer,hop]) ?_;simp only[execOp,hop];obtain⟨a,ha,hT⟩:=withV_wp hT;obtain⟨b,hb,hT⟩:=withV_wp hT;rw[hV x _ ha,hV y _ hb];exact op_sem ho hdst s dj hT (fun v h' hA=>⟨.val v,fun _=>rfl,un_wp (kd:=.slice) (k:=fun v=>kE (setD e o.dst (.val v))) hA.2⟩) hk
 case convert a b x =>
  refine step_op hR.1 ho hw (by simp[notDefer,hop]) ?_;simp only[execOp,hop];obtain⟨v,hv,hT⟩:=withV_wp hT;rw[hV x _ hv];split at hT
  ·rename_i dd kk kk' n hu' hu;refine op_pure ho hdst s dj (a:=.val _) (v:=_) (fun _=>rfl) hT hk ?_;simp only[lwp_bind,convert,lwp_underlying hu',lwp_underlying hu];cases dd<;>exact⟨rfl,rfl⟩
  ·rename_i dd sv hu' hu;refine op_pure ho hdst s dj (a:=.val _) (v:=_) (fun _=>rfl) hT hk ?_;simp only[lwp_bind,convert,lwp_underlying hu',lwp_underlying hu];cases dd<;>exact⟨rfl,rfl⟩
  ·exact op_sem ho hdst s dj hT (fun v h' hA=>⟨.val v,fun _=>rfl,un_wp (kd:=.str) (k:=fun v=>kE (setD e o.dst (.val v))) hA.2⟩) hk
  ·exact op_sem ho hdst s dj hT (fun v h' hA=>⟨.val v,fun _=>rfl,un_wp (kd:=.slice) (k:=fun v=>kE (setD e o.dst (.val v))) hA.2⟩) hk
  ·exact op_sem ho hdst s dj hT (fun v h' hA=>⟨.val v,fun _=>rfl,hA.2⟩) hk
 case lookup t m j ok =>
  refine step_op hR.1 ho hw (by simp[notDefer,hop]) ?_;simp only[execOp,hop];obtain⟨a,ha,hT⟩:=withV_wp hT;obtain⟨b,hb,hT⟩:=withV_wp hT;rw[hV m _ ha,hV j _ hb];split at hT
  ·split at hT
   ·refine op_sem ho hdst s dj hT (fun v h' hA=>⟨.val v,fun _=>rfl,?_⟩) hk;have:=hA.2;cases ok with
    | true=>exact unTup_wp (k:=fun v=>kE (setD e o.dst (.val v))) this
    | false=>exact unSh_wp (k:=fun v=>kE (setD e o.dst (.val v))) this
   ·exact hT.elim
  ·exact hT.elim
 case mapUpdate t m j x =>
  refine step_op hR.1 ho hw (by simp[notDefer,hop]) ?_;simp only[execOp,hop];obtain⟨a,ha,hT⟩:=withV_wp hT;obtain⟨b,hb,hT⟩:=withV_wp hT;obtain⟨c,hc,hT⟩:=withV_wp hT;rw[hV m _ ha,hV j _ hb,hV x _ hc];exact op_unit ho hdst s dj hT hk
 case mapEntry t m j =>
  refine step_op hR.1 ho hw (by simp[notDefer,hop]) ?_;simp only[execOp,hop];obtain⟨a,ha,hT⟩:=withV_wp hT;obtain⟨b,hb,hT⟩:=withV_wp hT;rw[hV m _ ha,hV j _ hb];exact op_sem ho hdst s dj hT (fun v h' hA=>⟨.val v,fun _=>rfl,unTup_wp (k:=fun v=>kE (setD e o.dst (.val v))) hA.2⟩) hk
 case entryStore t m j x =>
  refine step_op hR.1 ho hw (by simp[notDefer,hop]) ?_;simp only[execOp,hop];obtain⟨a,ha,hT⟩:=withV_wp hT;obtain⟨b,hb,hT⟩:=withV_wp hT;obtain⟨c,hc,hT⟩:=withV_wp hT;rw[hV m _ ha,hV j _ hb,hV x _ hc];exact op_unit ho hdst s dj hT hk
 case insert t m j x =>
  refine step_op hR.1 ho hw (by simp[notDefer,hop]) ?_;simp only[execOp,hop];obtain⟨a,ha,hT⟩:=withV_wp hT;obtain⟨b,hb,hT⟩:=withV_wp hT;obtain⟨c,hc,hT⟩:=withV_wp hT;rw[hV m _ ha,hV j _ hb,hV x _ hc];exact op_unit ho hdst s dj hT hk
 case call c =>
  refine step_op hR.1 ho hw (by simp[notDefer,hop]) ?_;simp only[execOp,hop];obtain⟨args,hargs,hT⟩:=withVs_wp hT;have hA:=map_toList _ c.args (hargs _ hV);cases hc:c.callee with
  | invoke r m =>
   rw[hc]at hT;obtain⟨rv,hx,hT⟩:=withV_wp hT;have dyn:∀ ss,(T.callv q (.func (.method m) #[rv] #[]) args.toArray fun v=>T.unRes ss v fun v=>kE (setD e o.dst (.val v))).wp X C.P Q h ->
     Sem.lwp C.P (do let d <- resolve (mkF fn ds rd tmps (.inRegion ops (i::rest)::k)).eval c o.type;invoke d.target d.args) (fun nx h'=>Nx C.P R (mkF fn ds rd tmps (.inRegion ops (i::rest)::k)) cs { h.add hp with get:=h' } nx) (fun _ _=>False) (h.add hp).get:=by
    intro ss hT;have hcv:=hT main (fun g h=>Disj h.get hp->R g (h.add hp)) (hR.frame hX hp) (mkF fn ds rd tmps (.inRegion ops (i::rest)::k)) cs ?_
    ·have:=lwp_frame _ hcv dj;unfold resolve;simp only[hc,hA,hV r _ hx];refine Sem.lwp_mono _ this ?_ ?_
     ·rintro nx h₂ ⟨h',d',rfl,hN⟩;cases nx<;>first|exact hN.elim|exact hN d'
     ·rintro e' h₂ ⟨_,_,_,hf⟩;exact hf.elim
    ·intro v h' j dj' hQ dk;have d1:Disj h'.get hp:=dk.of_add_left;have d2:Disj j hp:=Disj.of_add_right dj' dk;have e1:(h'.add j).add hp=(h'.add hp).add j:=by unfold LH.add;simp only;rw[Cells.add_swap d2]
     rw[e1];exact hR.1.up _ _ j (fin_val ho hdst s d1 (a:=.val v) (fun _=>rfl) (unRes_wp (k:=fun v=>kE (setD e o.dst (.val v))) hQ.2) hk) (Disj.add dj' d2.symm)
   split at hT<;>split at hT<;>first|exact hT.elim|exact dyn _ hT
  | builtin b =>
   have hres:∀ (Qf:Next->Cells->Prop) (H:Cells),Sem.lwp C.P (builtin b c.argTypes o.type (c.args.map fun | .const _=>true|_=>false) args.toArray) Qf (fun _ _=>False) H ->
     Sem.lwp C.P (do let d <- resolve (mkF fn ds rd tmps (.inRegion ops (i::rest)::k)).eval c o.type;invoke d.target d.args) Qf (fun _ _=>False) H:=by
    intro Qf H hq;rw[lwp_bind];unfold resolve;simp only[hc,hA,lwp_pure,invoke];exact hq
   refine hres _ _ ?_;rw[hc]at hT;cases b<;>simp only at hT<;>first
    | exact hT.elim
    | exact op_sem ho hdst s dj hT (fun v h' hA=>⟨.val v,fun _=>rfl,un_wp (kd:=.slice) (k:=fun v=>kE (setD e o.dst (.val v))) hA.2⟩) hk
    | exact op_sem ho hdst s dj hT (fun v h' hA=>⟨.val v,fun _=>rfl,hA.2⟩) hk
    | skip
   case len =>
    split at hT
    ·rename_i p n cc;split at hT
     ·rename_i hok;refine op_pure ho hdst s dj (a:=.val (.int .i64 n)) (v:=.int .i64 n) (fun _=>rfl) hT hk ?_;obtain⟨t,ht,el,hu⟩ : ∃ t,c.argTypes[0]?=some t/\∃ el,C.P.underlying t=some (.slice el):=by
       unfold lenOk at hok;split at hok
       ·rename_i t ht;split at hok
        ·rename_i el hu;exact⟨t,ht,el,hu⟩
        ·cases hok
       ·cases hok
      simp only[builtin,lwp_bind,Builtin.len_];simp only[ht,List.getElem?_toArray,List.getElem?_cons_zero,lwp_bind,lwp_underlying hu,lwp_pure];exact⟨rfl,trivial⟩
     ·exact hT.elim
    ·exact op_sem ho hdst s dj hT (fun v h' hA=>⟨.val v,fun _=>rfl,un_wp (kd:=.int .i64) (k:=fun v=>kE (setD e o.dst (.val v))) hA.2⟩) hk
    ·exact hT.elim
   case max =>
    split at hT
    ·exact op_pure ho hdst s dj (a:=.val _) (v:=_) (fun _=>rfl) hT hk ⟨rfl,rfl⟩
    ·exact hT.elim
   case min =>
    split at hT
    ·exact op_pure ho hdst s dj (a:=.val _) (v:=_) (fun _=>rfl) hT hk ⟨rfl,rfl⟩
    ·exact hT.elim
  | value x =>
   have dyn:∀ fv ss,opdA e x=some (.val fv)->(T.callv q fv args.toArray fun v=>T.unRes ss v fun v=>kE (setD e o.dst (.val v))).wp X C.P Q h ->
     Sem.lwp C.P (do let d <- resolve (mkF fn ds rd tmps (.inRegion ops (i::rest)::k)).eval c o.type;invoke d.target d.args) (fun nx h'=>Nx C.P R (mkF fn ds rd tmps (.inRegion ops (i::rest)::k)) cs { h.add hp with get:=h' } nx) (fun _ _=>False) (h.add hp).get:=by
    intro fv ss hx hT;have hcv:=hT main (fun g h=>Disj h.get hp->R g (h.add hp)) (hR.frame hX hp) (mkF fn ds rd tmps (.inRegion ops (i::rest)::k)) cs ?_
    ·have:=lwp_frame _ hcv dj;unfold resolve;simp only[hc,hA,hV x _ hx];refine Sem.lwp_mono _ this ?_ ?_
     ·rintro nx h₂ ⟨h',d',rfl,hN⟩;cases nx<;>first|exact hN.elim|exact hN d'
     ·rintro e' h₂ ⟨_,_,_,hf⟩;exact hf.elim
    ·intro v h' j dj' hQ dk;have d1:Disj h'.get hp:=dk.of_add_left;have d2:Disj j hp:=Disj.of_add_right dj' dk;have e1:(h'.add j).add hp=(h'.add hp).add j:=by unfold LH.add;simp only;rw[Cells.add_swap d2]
     rw[e1];exact hR.1.up _ _ j (fin_val ho hdst s d1 (a:=.val v) (fun _=>rfl) (unRes_wp (k:=fun v=>kE (setD e o.dst (.val v))) hQ.2) hk) (Disj.add dj' d2.symm)
   rw[hc]at hT;cases x with
   | func f =>
    simp only at hT;split at hT
    ·split at hT
     ·rename_i fd hfd ss hss;simp only[T.wp]at hT;unfold resolve;simp only[hc,hA,Frame.eval,Deferred.ofValue,lwp_bind,lwp_pure,invoke,callFunc,lwp_program];obtain⟨fd',hf',hb,hn⟩:=hT.1;rw[hf'];simp only;rw[if_neg (by rw[hn];simp),if_neg (by cases hbb:fd'.body<;>rw[hbb]at hb<;>simp at hb ⊢),lwp_pure];simp only[Array.append_empty,Array.empty_append];show R (G (Frame.enter C.P f args.toArray .normal) (_::cs)) (h.add hp);exact op_call hX hR dj hT fun v h' hA d'=>fin_val ho hdst s d' (a:=.val v) (fun _=>rfl) (unRes_wp (k:=fun v=>kE (setD e o.dst (.val v))) hA.2) hk
     ·exact hT.elim
    ·exact hT.elim
   | tmp t =>
    obtain⟨fv,hx,hT⟩:=withV_wp hT;split at hT<;>split at hT<;>first|exact hT.elim|exact dyn fv _ hx hT
   | const v =>
    obtain⟨fv,hx,hT⟩:=withV_wp hT;split at hT<;>split at hT<;>first|exact hT.elim|exact dyn fv _ hx hT
   | global g =>
    obtain⟨fv,hx,hT⟩:=withV_wp hT;split at hT<;>split at hT<;>first|exact hT.elim|exact dyn fv _ hx hT
 case slice t x lo hi mx =>
  refine step_op hR.1 ho hw (by simp[notDefer,hop]) ?_;simp only[execOp,hop];obtain⟨v,hv,hT⟩:=withV_wp hT;rw[hV x _ hv];have fin:∀ (l h' m:Option Value),(T.sem q (Instr.sliceAt t v l h' m) fun w=>T.unSlice v w fun w=>kE (setD e o.dst (.val w))).wp X C.P Q h ->
    Sem.lwp C.P (do pure (Next.value (<- Instr.sliceAt t v l h' m))) (fun nx h'=>Nx C.P R (mkF fn ds rd tmps (.inRegion ops (i::rest)::k)) cs { h.add hp with get:=h' } nx) (fun _ _=>False) (h.add hp).get:=by
   intro l h' m hT;refine op_sem ho hdst s dj hT (fun w h' hA=>⟨.val w,fun _=>rfl,?_⟩) hk;have:=hA.2;cases v<;>first
    | exact un_wp (kd:=.slice) (k:=fun v=>kE (setD e o.dst (.val v))) this
    | exact un_wp (kd:=.str) (k:=fun v=>kE (setD e o.dst (.val v))) this
  cases lo with
  | none =>
   cases hi with
   | none=>cases mx with
    | none=>exact fin _ _ _ hT
    | some m=>exact hT.elim
   | some hh =>
    cases mx with
    | none =>
     obtain⟨b,hb,hT⟩:=withV_wp hT;simp only[Option.map_some,Option.map_none,hV hh _ hb];exact fin _ _ _ hT
    | some m =>
     obtain⟨b,hb,hT⟩:=withV_wp hT;obtain⟨c,hc,hT⟩:=withV_wp hT;simp only[Option.map_some,Option.map_none,hV hh _ hb,hV m _ hc];exact fin _ _ _ hT
  | some l =>
   cases hi with
   | none=>cases mx with
    | none =>
     obtain⟨b,hb,hT⟩:=withV_wp hT;simp only[Option.map_some,Option.map_none,hV l _ hb];exact fin _ _ _ hT
    | some m=>exact hT.elim
   | some hh =>
    cases mx with
    | none =>
     obtain⟨a,ha,hT⟩:=withV_wp hT;obtain⟨b,hb,hT⟩:=withV_wp hT;simp only[Option.map_some,Option.map_none,hV l _ ha,hV hh _ hb];exact fin _ _ _ hT
    | some m =>
     obtain⟨a,ha,hT⟩:=withV_wp hT;obtain⟨b,hb,hT⟩:=withV_wp hT;obtain⟨c,hc,hT⟩:=withV_wp hT;simp only[Option.map_some,hV l _ ha,hV hh _ hb,hV m _ hc];exact fin _ _ _ hT
 case go c =>
  obtain⟨args,hargs,hT⟩:=withVs_wp hT;have hA:=map_toList _ c.args (hargs _ hV);cases hc:c.callee with
  | value x =>
   rw[hc]at hT;obtain⟨fv,hx,hT⟩:=withV_wp hT;split at hT
   ·rename_i hok;cases fv<;>simp only[fnOk,Bool.false_eq_true]at hok;rename_i f fs cp;refine hT main R hR (mkF fn ds rd tmps (.inRegion ops (i::rest)::k)) cs mkF_at hst ?_ hp dj ?_
    ·intro w;rw[stepG_up ho hw (by simp[notDefer,hop])];have hkd:((mkF fn ds rd tmps (.inRegion ops (i::rest)::k)).kind==CallKind.early)=false:=by simpa[mkF] using fn.ok
     simp[stepG.apply,execOp,hop,resolve,hc,hA,hV x _ hx,Deferred.ofValue,Sem.runT_fst,hkd,GStep.after,G,deferOf];exact seen_nil
    ·intro h' d' hw';exact fin_val ho hdst s d' (a:=.val undef) (fun _=>rfl) hw' hk
   ·exact hT.elim
  | invoke r m=>rw[hc]at hT;exact hT.elim
  | builtin b=>rw[hc]at hT;exact hT.elim
 case send ch x =>
  obtain⟨c,hc,hT⟩:=withV_wp hT;obtain⟨v,hv,hT⟩:=withV_wp hT;refine hT main R hR (mkF fn ds rd tmps (.inRegion ops (i::rest)::k)) cs mkF_at hst (fun hl=>by obtain⟨rfl,rfl,h3,h4,h5,h6⟩:=hfin hl;exact⟨⟨ops,i,rfl⟩,rfl,h3,h4,h5,h6⟩) ?_ hp dj ?_
  ·intro w;rw[stepG_up ho hw (by simp[notDefer,hop])];have hkd:((mkF fn ds rd tmps (.inRegion ops (i::rest)::k)).kind==CallKind.early)=false:=by simpa[mkF] using fn.ok
   simp[stepG.apply,execOp,hop,hV ch _ hc,hV x _ hv,hkd,GStep.after,G];exact seen_nil
  ·intro v h' d' hw';exact fin_val ho hdst s d' (a:=.val v) (fun _=>rfl) hw' hk
 case recv t ch ok =>
  obtain⟨c,hc,hT⟩:=withV_wp hT;split at hT
  ·rename_i dir el hu;split at hT
   ·rename_i z sh hz hsh;obtain⟨inf,hi,hzz⟩ : ∃ inf,C.P.info? el=some inf/\inf.zero=some z:=by
     unfold zerosOf at hz;cases hi:C.P.info? el with
     | none=>rw[hi]at hz;cases hz
     | some inf=>rw[hi]at hz;exact⟨inf,rfl,hz⟩
    refine hT main R hR (mkF fn ds rd tmps (.inRegion ops (i::rest)::k)) cs mkF_at hst (fun hl=>by obtain⟨rfl,rfl,h3,h4,h5,h6⟩:=hfin hl;exact⟨⟨ops,i,rfl⟩,rfl,h3,h4,h5,h6⟩) ?_ hp dj ?_
    ·intro w;rw[stepG_up ho hw (by simp[notDefer,hop])];have hkd:((mkF fn ds rd tmps (.inRegion ops (i::rest)::k)).kind==CallKind.early)=false:=by simpa[mkF] using fn.ok
     have hrun:(execOp (mkF fn ds rd tmps (.inRegion ops (i::rest)::k)).eval o).runT C.P w #[]=(.ok (.comm #[{ chan:=c,send:=none,zero:=z }] true (.recv ok)) w,#[]):=by
      simp only[execOp,hop,hV ch _ hc];rw[runT_underlying hu];simp only;rw[runT_zeroValue hi hzz];rfl
     have h1:(execOp (mkF fn ds rd tmps (.inRegion ops (i::rest)::k)).eval o).run C.P w=.ok (.comm #[{ chan:=c,send:=none,zero:=z }] true (.recv ok)) w:=by rw[<- Sem.runT_fst _ _ _ #[],hrun]
     have h2:Sem.events C.P (execOp (mkF fn ds rd tmps (.inRegion ops (i::rest)::k)).eval o) w #[]=#[]:=by show ((execOp _ o).runT C.P w #[]).2=#[];rw[hrun]
     simp[stepG.apply,h1,h2,hkd,GStep.after,G,seen_nil]
    ·intro v h' d' hw';refine fin_val ho hdst s d' (a:=.val v) (fun _=>rfl) ?_ hk;cases ok with
     | true=>exact unTup_wp (k:=fun v=>kE (setD e o.dst (.val v))) hw'
     | false=>exact unSh_wp (k:=fun v=>kE (setD e o.dst (.val v))) hw'
   ·exact hT.elim
  ·exact hT.elim
 case select sc bl =>
  cases bl with
  | false=>exact hT.elim
  | true =>
   obtain⟨l,ss,hl,hT⟩:=selT_wp hT;refine hT main R hR (mkF fn ds rd tmps (.inRegion ops (i::rest)::k)) cs mkF_at hst (fun hl=>by obtain⟨rfl,rfl,h3,h4,h5,h6⟩:=hfin hl;exact⟨⟨ops,i,rfl⟩,rfl,h3,h4,h5,h6⟩) ?_ hp dj ?_
   ·intro w;rw[stepG_up ho hw (by simp[notDefer,hop])];have hkd:((mkF fn ds rd tmps (.inRegion ops (i::rest)::k)).kind==CallKind.early)=false:=by simpa[mkF] using fn.ok
    have hrun:(execOp (mkF fn ds rd tmps (.inRegion ops (i::rest)::k)).eval o).runT C.P w #[]=(.ok (.comm l.toArray true .select) w,#[]):=by
     simp only[execOp,hop];exact hl _ hV w
    have h1:(execOp (mkF fn ds rd tmps (.inRegion ops (i::rest)::k)).eval o).run C.P w=.ok (.comm l.toArray true .select) w:=by rw[<- Sem.runT_fst _ _ _ #[],hrun]
    have h2:Sem.events C.P (execOp (mkF fn ds rd tmps (.inRegion ops (i::rest)::k)).eval o) w #[]=#[]:=by show ((execOp _ o).runT C.P w #[]).2=#[];rw[hrun]
    simp[stepG.apply,h1,h2,hkd,GStep.after,G,seen_nil]
   ·intro v h' d' hw';exact fin_val ho hdst s d' (a:=.val v) (fun _=>rfl) (unTup_wp (k:=fun v=>kE (setD e o.dst (.val v))) hw') hk
 all_goals exact hT.elim
end
end
section
def bindEnv:List (Nat×Kind)->List Value->Env->Env
 | (s,_)::l,v::vs,e=>bindEnv l vs ((s,.val v)::e)
 | _,_,e=>e
theorem bindEnv_get:∀ {L:List (Nat×Kind)} {vs:List Value} {e e':Env},collect e' L=some vs->∀ i a,(bindEnv L vs e).get i=some a->(i∈L.map (·.1)/\e'.get i=some a/\∃ v,a=.val v)\/e.get i=some a:=by
 intro L
 induction L with
 | nil=>intro vs e e' hc i a h;cases vs<;>exact .inr h
 | cons x L ih =>
  obtain⟨s,kd⟩:=x;intro vs e e' hc i a h;rw[collect]at hc;split at hc
  ·rename_i v vs' hv hc';cases hc;rw[bindEnv]at h;rcases ih hc' i a h with⟨h1,h2,h3⟩|h'
   ·exact .inl ⟨by simp[h1],h2,h3⟩
   ·rw[Env.get_cons]at h';by_cases e1:s=i
    ·rw[if_pos e1]at h';cases h';subst e1;exact .inl ⟨by simp,hv,v,rfl⟩
    ·rw[if_neg e1]at h';exact .inr h'
  ·cases hc
theorem get_stays{W ro:List Nat}{e:Env}{s:Nat}{a:AV}(h:(stays W ro e).get s=some a):∃ a₀,e.get s=some a₀/\a=a₀.scrap (memN W)/\(4096<=s->blockOf s∈ro/\blockOf s∉W)/\(s<4096->s∉W):=by
 unfold stays at h;rw[Env.get_keep,Env.get_scrap]at h;by_cases hk:staysP W ro s=true
 ·rw[if_pos hk]at h;cases he:e.get s with
  | none=>rw[he]at h;cases h
  | some a₀ =>
   rw[he]at h;cases h;refine⟨a₀,rfl,rfl,fun h1=>?_,fun h1=>?_⟩
   ·rw[staysP,isPriv_iff.2 h1]at hk;simp only[Bool.and_eq_true,Bool.not_eq_true']at hk;exact⟨memN_iff.1 hk.1,memN_false.1 hk.2⟩
   ·rw[staysP,isPriv_false.2 h1]at hk;simp only[Bool.not_eq_true']at hk;exact memN_false.1 hk
 ·rw[if_neg hk]at h;cases h
theorem freeOf_spec{ro:List Nat}:∀ {L:List (Nat×Kind)},freeOf ro L=true->∀ s,s∈L.map (·.1)->4096<=s->blockOf s∉ro:=by
 intro L
 induction L with
 | nil=>intro _ s hs;simp at hs
 | cons x L ih =>
  obtain⟨t,kd⟩:=x;intro h s hs h4;rw[freeOf]at h;simp only[Bool.and_eq_true,Bool.not_eq_true']at h;simp only[List.map_cons,List.mem_cons]at hs;rcases hs with rfl|hs
  ·have:=h.1;rw[isPriv_iff.2 h4]at this;exact memN_false.1 (by simpa using this)
  ·exact ih h.2 s hs h4
def prot'(PB:Nat->Prop)(σ:Nat->Nat)(ro₁:List Nat)(e:Env)(r:Nat):Prop:=PB r\/∃ s a,4096<=s/\e.get s=some a/\blockOf s∈ro₁/\r=σ (blockOf s)
section
variable {σ:Nat->Nat} {ro:List Nat} {PB:Nat->Prop} {e:Env} {tmps:Array Value} {hp:Cells}
theorem Sim.guarded(s:Sim σ ro PB e tmps hp)(ro₁:List Nat):Sim σ (appL ro₁ ro) (prot' PB σ ro₁ e) e tmps hp where
 slot:=s.slot
 cell:=s.cell
 only:=s.only
 inj:=s.inj
 prot t a ht hg hro:=by
  rw[appL_eq,List.mem_append]at hro;rintro(h|⟨t',a',ht',hg',hr',heq⟩)
  ·exact s.prot t a ht hg (fun h=>hro (.inr h)) h
  ·have:=s.inj t t' a a' ht ht' hg hg' heq;exact hro (.inl (this▸hr'))
 cover t a ht hg hro:=by
  rw[appL_eq,List.mem_append]at hro;rcases hro with h|h
  ·exact .inr ⟨t,a,ht,hg,h,rfl⟩
  ·exact .inl (s.cover t a ht hg h)
theorem Sim.guarded_live(s:Sim σ ro PB e tmps hp)(ro₁:List Nat)(hPB:∀ b,PB b->∃ x,hp b=some x):∀ b,prot' PB σ ro₁ e b->∃ x,hp b=some x:=by
 rintro b (h|⟨t,a,ht,hg,_,rfl⟩)
 ·exact hPB b h
 ·obtain⟨v,rfl⟩:=s.only t a ht hg;obtain⟨c,el,hc,_⟩:=s.cell t v ht hg;exact⟨_,hc⟩
theorem Sim.rebind(s:Sim σ ro PB e tmps hp){ro₁ W:List Nat}{L:List (Nat×Kind)}{σ':Nat->Nat}{e':Env}{tmps':Array Value}{hp':Cells}{vs:List Value}
 (s':Sim σ' (appL ro₁ ro) (prot' PB σ ro₁ e) e' tmps' hp')(f:Fr W (prot' PB σ ro₁ e) σ tmps hp σ' tmps' hp')(hc:collect e' L=some vs)(hfree:freeOf (appL ro₁ ro) L=true) :
  Sim σ' ro PB (bindEnv L vs (stays W (appL ro₁ ro) e)) tmps' hp'/\Sim σ' (appL ro₁ ro) (prot' PB σ ro₁ e) (bindEnv L vs (stays W (appL ro₁ ro) e)) tmps' hp':=by
 have hget:=@bindEnv_get L vs (stays W (appL ro₁ ro) e) e' hc;have old:∀ t a,4096<=t->(stays W (appL ro₁ ro) e).get t=some a->e.get t=some a/\blockOf t∈appL ro₁ ro/\σ' (blockOf t)=σ (blockOf t)/\prot' PB σ ro₁ e (σ (blockOf t)):=by
  intro t a ht hg;obtain⟨a₀,h1,h2,h3,_⟩:=get_stays hg;obtain⟨hr,hw⟩:=h3 ht;obtain⟨v,rfl⟩:=s.only t a₀ ht h1;have:a=.val v:=h2;subst this;exact⟨h1,hr,f.names _ hw,(s.guarded ro₁).cover t _ ht h1 hr⟩
 have base:(∀ i a,i<4096->(bindEnv L vs (stays W (appL ro₁ ro) e)).get i=some a->a≠.bad->tmps'[i]?=some (conc σ' a)) /\
   (∀ t v,4096<=t->(bindEnv L vs (stays W (appL ro₁ ro) e)).get t=some (.val v)->∃ c el,hp' (σ' (blockOf t))=some (true,.cells c el (0,0))/\c[t%4096]?=some v) /\
   (∀ t a,4096<=t->(bindEnv L vs (stays W (appL ro₁ ro) e)).get t=some a->∃ v,a=.val v) /\
   (∀ t t' a a',4096<=t->4096<=t'->(bindEnv L vs (stays W (appL ro₁ ro) e)).get t=some a->(bindEnv L vs (stays W (appL ro₁ ro) e)).get t'=some a'->σ' (blockOf t)=σ' (blockOf t')->blockOf t=blockOf t'):=by
  refine⟨?_,?_,?_,?_⟩
  ·intro i a hi hg hb;rcases hget i a hg with⟨_,h1,_⟩|h1
   ·exact s'.slot i a hi h1 hb
   ·obtain⟨a₀,h2,h3,_,h4⟩:=get_stays h1;rw[f.slots i (h4 hi)];subst h3;cases a₀ with
    | val v=>exact s.slot i _ hi h2 (by simp)
    | pp k o =>
     have hk:memN W k=false:=by
      cases hk:memN W k with
      | false=>rfl
      | true=>exact absurd (show AV.scrap (memN W) (.pp k o)=.bad by simp[AV.scrap,hk]) hb
     rw[s.slot i _ hi h2 (by simp)];simp[AV.scrap,hk,conc,f.names k (memN_false.1 hk)]
    | bad=>exact absurd rfl hb
  ·intro t v ht hg;rcases hget t _ hg with⟨_,h1,_⟩|h1
   ·exact s'.cell t v ht h1
   ·obtain⟨h2,h3,h4,h5⟩:=old t _ ht h1;obtain⟨c,el,h6,h7⟩:=s.cell t v ht h2;exact⟨c,el,by rw[h4,f.prot _ h5];exact h6,h7⟩
  ·intro t a ht hg;rcases hget t _ hg with⟨_,_,h1⟩|h1
   ·exact h1
   ·obtain⟨h2,_⟩:=old t _ ht h1;exact s.only t a ht h2
  ·intro t t' a a' ht ht' hg hg' heq;rcases hget t _ hg with⟨m1,h1,_⟩|h1<;>rcases hget t' _ hg' with⟨m2,h2,_⟩|h2
   ·exact s'.inj t t' a a' ht ht' h1 h2 heq
   ·obtain⟨_,_,h5,h6⟩:=old t' _ ht' h2;have:=s'.prot t a ht h1 (freeOf_spec hfree t m1 ht);rw[heq,h5]at this;exact absurd h6 this
   ·obtain⟨_,_,h5,h6⟩:=old t _ ht h1;have:=s'.prot t' a' ht' h2 (freeOf_spec hfree t' m2 ht');rw[<- heq,h5]at this;exact absurd h6 this
   ·obtain⟨g1,_,h5,_⟩:=old t _ ht h1;obtain⟨g2,_,h6,_⟩:=old t' _ ht' h2;exact s.inj t t' a a' ht ht' g1 g2 (by rw[<- h5,<- h6];exact heq)
 obtain⟨b1,b2,b3,b4⟩:=base;refine⟨⟨b1,b2,b3,b4,?_,?_⟩,⟨b1,b2,b3,b4,?_,?_⟩⟩
 ·intro t a ht hg hro;rcases hget t _ hg with⟨m1,h1,_⟩|h1
  ·exact fun h=>s'.prot t a ht h1 (freeOf_spec hfree t m1 ht) (.inl h)
  ·obtain⟨h2,_,h5,_⟩:=old t _ ht h1;rw[h5];exact s.prot t a ht h2 hro
 ·intro t a ht hg hro;rcases hget t _ hg with⟨m1,h1,_⟩|h1
  ·exact absurd (by rw[appL_eq];simp[hro]) (freeOf_spec hfree t m1 ht)
  ·obtain⟨h2,_,h5,_⟩:=old t _ ht h1;rw[h5];exact s.cover t a ht h2 hro
 ·intro t a ht hg hro;rcases hget t _ hg with⟨m1,h1,_⟩|h1
  ·exact s'.prot t a ht h1 hro
  ·obtain⟨_,h3,_⟩:=old t _ ht h1;exact absurd h3 hro
 ·intro t a ht hg hro;rcases hget t _ hg with⟨m1,h1,_⟩|h1
  ·exact absurd hro (freeOf_spec hfree t m1 ht)
  ·obtain⟨_,_,h5,h6⟩:=old t _ ht h1;rw[h5];exact h6
end
section
variable {X:XP} {C:Ctx} {main:Bool} {R:Goroutine->LH->Prop}
theorem bindS_wp{P:Program}{Q:Leaf->LH->Prop}{h:LH}:∀ {L:List (Nat×Kind)} {vs:List Value} {e:Env} {kE:Env->T},(bindS L vs e kE).wp X P Q h->(kE (bindEnv L vs e)).wp X P Q h:=by
 intro L
 induction L with
 | nil=>intro vs e kE hw;obtain⟨rfl,hw⟩:=unNil_wp hw;exact hw
 | cons x L ih =>
  obtain⟨s,kd⟩:=x;intro vs e kE hw;obtain⟨v,vs',rfl,hw'⟩:=pop_wp hw;exact ih hw'
theorem withC_wp{P:Program}{a:Option (List Value)}{k:List Value->T}{Q:Leaf->LH->Prop}{h:LH}(hw:(withC a k).wp X P Q h):∃ b,a=some b/\(k b).wp X P Q h:=by
 cases a with
 | none=>exact hw.elim
 | some b=>exact⟨b,rfl,hw⟩
theorem outT_wp{P:Program}{Q:Leaf->LH->Prop}{h:LH}{k:Nat->List Value->T}{vs:List Value}{j:Nat}:∀ {os:List Nat},(outT k os j vs).wp X P Q h->(k j vs).wp X P Q h:=by
 intro os
 induction os with
 | nil=>intro hw;exact hw.elim
 | cons o os ih =>
  intro hw;rw[outT]at hw;cases hb:Nat.beq j o with
  | true=>rw[hb]at hw;have:=nbeq_true hb;subst this;exact hw
  | false=>rw[hb]at hw;exact ih hw
variable {cs:List Frame} {fn:FI} {ds:List Deferred} {rd:Option Nat} {Q:Leaf->LH->Prop}
theorem yielded_eq{ops:Array Oper}{tmps:Array Value}{j d:Nat}{b:Bool}(hd:(ops[j]?).bind (·.dst)=some d)(hb:tmps[d]?=some (.bool b)):yielded ops tmps j=some b:=by
 unfold yielded;rw[hd];simp[hb]
theorem guardT_sound{fin:Bool}{ops:Array Oper}{o:Oper}{i:Nat}{rest:List Nat}{k:List Item}{σ:Nat->Nat}{ro:List Nat}{PB:Nat->Prop}{e:Env}{tmps:Array Value}{hp:Cells}{h:LH}{kE:Env->T}{q:Bool}
 (hX:XOK X)(hR:Closed X C.P main R)(hst:X.stk C.P fn.kd cs)(hfin:fin=true->rest=[]/\k=[]/\ds=[]/\rd=none/\fn.kd=.deferred/\∃ fd,C.P.funcs[fn.fn]?=some fd/\fd.results=#[])(ho:ops[i]?=some o)(hdst:∀ d,o.dst=some d->d<tmps.size/\d<4096)
 (s:Sim σ ro PB e tmps hp)(dj:Disj h.get hp)(hPB:∀ b,PB b->∃ x,hp b=some x)(hT:(guardT C fin ro q ops o e kE).wp X C.P Q h)
 (hk:Behind X C.P R fn ds rd cs (.inRegion ops rest::k) o.dst.toList ro PB σ tmps hp kE Q) :
  R (G (mkF fn ds rd tmps (.inRegion ops (i::rest)::k)) cs) (h.add hp):=by
 unfold guardT at hT;split at hT
 ·rename_i hg;exact opT_sound hX hR hst hfin ho (by simp[Region.wanted,hg]) hdst s dj hPB hT hk
 ·rename_i j want hg;split at hT
  ·rename_i d hd;split at hT
   ·rename_i b hb;have hs:=slotA_some hb;have hy:=yielded_eq hd (s.slot d _ hs.1 hs.2 (by simp));have skip:Region.wanted o (yielded ops tmps)=false->∀ e',Sim σ ro PB e' tmps hp->(kE (setD e' o.dst (.val undef))).wp X C.P Q h->R (G (mkF fn ds rd tmps (.inRegion ops (i::rest)::k)) cs) (h.add hp):=by
     intro hw e' s' hT;refine step_skipped hR.1 ho hw ?_;exact fin_val ho hdst s' dj (a:=.val undef) (fun _=>rfl) hT hk
    cases b<;>cases want<;>simp only[cond_true,cond_false]at hT
    ·exact opT_sound hX hR hst hfin ho (by simp[Region.wanted,hg,hy]) hdst (s.again hb) dj hPB hT hk
    ·exact skip (by simp[Region.wanted,hg,hy]) _ (s.again hb) hT
    ·exact skip (by simp[Region.wanted,hg,hy]) _ (s.again hb) hT
    ·exact opT_sound hX hR hst hfin ho (by simp[Region.wanted,hg,hy]) hdst (s.again hb) dj hPB hT hk
   ·rename_i vs hb;have hs:=slotA_some hb;have hy:yielded ops tmps j=none:=by
     have:=s.slot d _ hs.1 hs.2 (by simp);unfold yielded;rw[hd];simp only[Option.bind_some,this,conc]
    refine step_skipped hR.1 ho (by simp[Region.wanted,hg,hy]) ?_;exact fin_val ho hdst s dj (a:=.val undef) (fun _=>rfl) hT hk
   ·exact hT.elim
  ·exact hT.elim
theorem opsT_sound{fin:Bool}{ops:Array Oper}{k:List Item}{ro:List Nat}{PB:Nat->Prop}{D:List Nat}{kE:Env->T}{q:Bool}(hX:XOK X)(hR:Closed X C.P main R)(hst:X.stk C.P fn.kd cs)(hfin:fin=true->k=[]/\ds=[]/\rd=none/\fn.kd=.deferred/\∃ fd,C.P.funcs[fn.fn]?=some fd/\fd.results=#[]):∀ (l:List Nat) {σ:Nat->Nat} {e:Env} {tmps:Array Value} {hp:Cells} {h:LH},
  (∀ i∈l,∀ o,ops[i]?=some o->∀ d,o.dst=some d->d∈D/\d<tmps.size/\d<4096) ->
  Sim σ ro PB e tmps hp->Disj h.get hp->(∀ b,PB b->∃ x,hp b=some x)->(opsT C fin ro q ops l e kE).wp X C.P Q h->Behind X C.P R fn ds rd cs k D ro PB σ tmps hp kE Q ->
  R (G (mkF fn ds rd tmps (.inRegion ops l::k)) cs) (h.add hp):=by
 intro l
 induction l with
 | nil=>intro σ e tmps hp h hD s dj hPB hT hk;exact mv_regionEnd hR.1 (hk e tmps σ hp h s dj Fr.refl hT)
 | cons i l ih =>
  intro σ e tmps hp h hD s dj hPB hT hk;unfold opsT at hT;cases ho:ops[i]? with
  | none=>rw[ho]at hT;exact hT.elim
  | some o =>
   rw[ho]at hT;refine guardT_sound hX hR hst (by
    intro hl;cases l with
    | nil=>exact⟨rfl,hfin hl⟩
    | cons _ _=>cases hl) ho (fun d hd=>(hD i (by simp) o ho d hd).2) s dj hPB hT ?_
   intro e' tmps' σ' hp' h' s' dj' f' hT';refine ih (fun j hj o' ho' d hd=>?_) s' dj' (fun b hb=>by rw[f'.prot b hb];exact hPB b hb) hT' ?_
   ·rw[f'.size];exact hD j (by simp[hj]) o' ho' d hd
   ·intro e'' t'' σ'' hp'' h'' s'' dj'' f'' hT'';refine hk e'' t'' σ'' hp'' h'' s'' dj'' (f'.trans f'' ?_ (fun _ h=>h)) hT'';intro d hd;cases hdd:o.dst with
    | none=>rw[hdd]at hd;simp at hd
    | some d'=>rw[hdd]at hd;simp at hd;subst hd;exact(hD i (by simp) o ho d hdd).1
end
end
section
section
variable {X:XP} {P:Program} {Q:Leaf->LH->Prop} {h:LH}
theorem loadK_re{kd:Kind}{a:Addr}{k:Value->T}(hw:(T.loadK kd a k).wp X P Q h):∃ v,(k v).wp X P Q h/\∀ k' Q',(k' v).wp X P Q' h->(T.loadK kd a k').wp X P Q' h:=by
 cases kd<;>simp only[T.loadK,T.wp]at hw
 ·obtain⟨n,h1,h2⟩:=hw;exact⟨_,h2,fun k' Q' h'=>⟨n,h1,h'⟩⟩
 ·obtain⟨n,h1,h2⟩:=hw;exact⟨_,h2,fun k' Q' h'=>⟨n,h1,h'⟩⟩
 ·obtain⟨p,n,c,h1,h2⟩:=hw;exact⟨_,h2,fun k' Q' h'=>⟨p,n,c,h1,h'⟩⟩
 ·obtain⟨n,h1,h2⟩:=hw;exact⟨_,h2,fun k' Q' h'=>⟨n,h1,h'⟩⟩
 ·obtain⟨n,h1,h2⟩:=hw;exact⟨_,h2,fun k' Q' h'=>⟨n,h1,h'⟩⟩
 ·obtain⟨n,h1,h2⟩:=hw;exact⟨_,h2,fun k' Q' h'=>⟨n,h1,h'⟩⟩
 ·obtain⟨n,h1,h2⟩:=hw;exact⟨_,h2,fun k' Q' h'=>⟨n,h1,h'⟩⟩
 ·obtain⟨n,h1,h2⟩:=hw;exact⟨_,h2,fun k' Q' h'=>⟨n,h1,h'⟩⟩
theorem loadL_re{a:Addr}:∀ {ks:List Kind} {i:Nat} {k:List Value->T},(T.loadL a ks i k).wp X P Q h->∃ l,(k l).wp X P Q h/\∀ k' Q',(k' l).wp X P Q' h->(T.loadL a ks i k').wp X P Q' h:=by
 intro ks
 induction ks with
 | nil=>intro i k hw;exact⟨[],hw,fun _ _ h'=>h'⟩
 | cons kd ks ih =>
  intro i k hw;obtain⟨v,hw,re⟩:=loadK_re hw;obtain⟨l,hl,re'⟩:=ih (k:=fun l=>k (v::l)) hw;exact⟨v::l,hl,fun k' Q' h'=>re _ _ (re' (fun l=>k' (v::l)) Q' h')⟩
def valsE(E:Env):List Operand->Option (List Value)
 | []=>some []
 | x::l=>match opdA E x,valsE E l with
  | some (.val v),some vs=>some (v::vs)
  | _,_=>none
theorem withVs_vals{E:Env}:∀ {xs:List Operand} {k:List Value->T},(withVs E xs k).wp X P Q h->∃ vs,valsE E xs=some vs/\(k vs).wp X P Q h:=by
 intro xs
 induction xs with
 | nil=>intro k hw;exact⟨[],rfl,hw⟩
 | cons x xs ih =>
  intro k hw;obtain⟨v,hv,hw⟩:=withV_wp hw;obtain⟨vs,h1,h2⟩:=ih (k:=fun l=>k (v::l)) hw;exact⟨v::vs,by rw[valsE,hv,h1],h2⟩
theorem withVs_eq{E:Env}:∀ {xs:List Operand} {vs:List Value} {k:List Value->T},valsE E xs=some vs->withVs E xs k=k vs:=by
 intro xs
 induction xs with
 | nil=>intro vs k hv;cases hv;rfl
 | cons x xs ih =>
  intro vs k hv;rw[valsE]at hv;split at hv
  ·rename_i v vs' h1 h2;cases hv;rw[withVs,h1];exact ih (k:=fun l=>k (v::l)) h2
  ·cases hv
theorem valsE_agree{E E':Env}:∀ {xs:List Operand},(∀ x∈xs,opdA E' x=opdA E x)->valsE E' xs=valsE E xs:=by
 intro xs
 induction xs with
 | nil=>intro _;rfl
 | cons x xs ih =>
  intro hx;rw[valsE,valsE,hx x (by simp),ih fun y hy=>hx y (by simp[hy])]
theorem withParts_vals{E:Env}:∀ {xs:List (Nat×Operand)} {k:List (Nat×Value)->T},(withParts E xs k).wp X P Q h->∃ vs,valsE E (xs.map (·.2))=some vs/\(k ((xs.map (·.1)).zip vs)).wp X P Q h:=by
 intro xs
 induction xs with
 | nil=>intro k hw;exact⟨[],rfl,hw⟩
 | cons x xs ih =>
  obtain⟨i,x⟩:=x;intro k hw;obtain⟨v,hv,hw⟩:=withV_wp hw;obtain⟨vs,h1,h2⟩:=ih (k:=fun l=>k ((i,v)::l)) hw;exact⟨v::vs,by rw[List.map_cons,valsE,hv,h1],h2⟩
theorem withParts_eq{E:Env}:∀ {xs:List (Nat×Operand)} {vs:List Value} {k:List (Nat×Value)->T},valsE E (xs.map (·.2))=some vs->withParts E xs k=k ((xs.map (·.1)).zip vs):=by
 intro xs
 induction xs with
 | nil=>intro vs k hv;cases hv;rfl
 | cons x xs ih =>
  obtain⟨i,x⟩:=x;intro vs k hv;rw[List.map_cons,valsE]at hv;split at hv
  ·rename_i v vs' h1 h2;cases hv;rw[withParts,h1];exact ih (k:=fun l=>k ((i,v)::l)) h2
  ·cases hv
theorem privCells_agree{E E':Env}{k:Nat}(hp:∀ s,4096<=s->E'.get s=E.get s):∀ n j,privCells E' k j n=privCells E k j n:=by
 intro n
 induction n with
 | zero=>intro j;rfl
 | succ n ih=>intro j;rw[privCells,privCells,hp _ pkey_ge,ih]
theorem privLoad_agree{E E':Env}{i j:Nat}{t:TypeId}(hp:∀ s,4096<=s->E'.get s=E.get s):privLoad P E' i j t=privLoad P E i j t:=by
 unfold privLoad;rw[privCells_agree hp,hp _ pkey_ge]
end
section
variable {X:XP} {C:Ctx} {Q:Leaf->LH->Prop} {h:LH} {fin q:Bool} {ro:List Nat} {o:Oper} {E:Env} {k:Env->T} {d:Nat}
theorem un_eq{P:Program}{kd:Kind}{v:Value}{k:Value->T}(hw:(T.un kd v k).wp X P Q h)(k':Value->T):T.un kd v k'=k' v:=by
 cases kd<;>cases v<;>simp only[T.un,T.unI,T.unB,T.unS,T.unP,T.unM,T.unC,T.unStr,T.unA]at hw<;>first
  | rfl
  | exact hw.elim
  | (rename_i p;cases p<;>first|rfl|exact hw.elim)
  | (split at hw<;>first|(rename_i hd;have:=of_decide_eq_true hd;subst this;simp[T.un,T.unI])|exact hw.elim)
theorem pop_eq{P:Program}{kd:Kind}{vs:List Value}{k:Value->List Value->T}(hw:(T.pop kd vs k).wp X P Q h):∃ v vs',vs=v::vs'/\∀ k',T.pop kd vs k'=k' v vs':=by
 cases vs with
 | nil=>cases kd<;>exact hw.elim
 | cons v vs =>
  refine⟨v,vs,rfl,fun k'=>?_⟩;cases kd<;>cases v<;>simp only[T.pop,T.popI,T.popB,T.popS,T.popP,T.popM,T.popC,T.popStr,T.popV,T.popA]at hw<;>first
   | rfl
   | exact hw.elim
   | (rename_i p;cases p<;>first|rfl|exact hw.elim)
   | (split at hw<;>first|(rename_i hd;have:=of_decide_eq_true hd;subst this;simp[T.pop,T.popI])|exact hw.elim)
theorem unList_eq{P:Program}:∀ {ks:List Kind} {vs:List Value} {k:List Value->T},(T.unList ks vs k).wp X P Q h->∀ k',T.unList ks vs k'=k' vs:=by
 intro ks
 induction ks with
 | nil =>
  intro vs k hw k';obtain⟨rfl,_⟩:=unNil_wp hw;rfl
 | cons kd ks ih =>
  intro vs k hw k';obtain⟨v,vs',rfl,he⟩:=pop_eq hw;have hw':(T.unList ks vs' fun l=>k (v::l)).wp X P Q h:=by
   have:T.unList (kd::ks) (v::vs') k=T.unList ks vs' fun l=>k (v::l):=he _;rw[this]at hw;exact hw
  exact(he _).trans (ih hw' _)
theorem shaped_eq{P:Program}{t:TypeId}{v:Value}{k:Value->T}(hw:(T.shaped P t v k).wp X P Q h)(k':Value->T):T.shaped P t v k'=k' v:=by
 unfold T.shaped at hw ⊢;split at hw
 ·rename_i s hs;cases s with
  | cell kd=>exact un_eq hw k'
  | agg ks =>
   cases v<;>simp only[T.unSh,T.unAgg]at hw<;>first|exact hw.elim|skip
   rename_i cs;have:=unList_eq hw fun l=>k' (.agg l.toArray);simpa[T.unSh,T.unAgg] using this
 ·rfl
theorem intOp_re{P:Program}{op:BinOp}{ka:IntKind}{x y:Int}{k:Value->T}(hw:(intOp op ka x y k).wp X P Q h):∃ v,(k v).wp X P Q h/\∀ k' Q',(k' v).wp X P Q' h->(intOp op ka x y k').wp X P Q' h:=by
 cases op<;>simp only[intOp]at hw ⊢<;>first
  | exact hw.elim
  | exact⟨_,hw,fun _ _ h'=>h'⟩
  | exact⟨_,hw.2,fun _ _ h'=>⟨hw.1,h'⟩⟩
theorem binT_re{P:Program}{op:BinOp}{t:TypeId}{x y:Operand}{a b:Value}{k:Value->T}(hf:isIntB (some (.val a)) (some (.val b))=true)(hw:(binT P q op t x y a b k).wp X P Q h) :
    ∃ v,(k v).wp X P Q h/\∀ k' Q',(k' v).wp X P Q' h->(binT P q op t x y a b k').wp X P Q' h:=by
  cases a<;>cases b<;>first|(cases hf;done)|skip
  case int.int ka m kb n =>
    cases op<;>simp only[binT]at hw ⊢<;>first
      | exact⟨_,hw.2,fun _ _ h'=>⟨hw.1,h'⟩⟩
      | (cases hk:decide (ka=kb) with
         | true =>
           rw[hk]at hw;obtain⟨v,hv,re⟩:=intOp_re hw;exact⟨v,hv,fun k' Q' h'=>re k' Q' h'⟩
         | false=>rw[hk]at hw;exact hw.elim)
  case bool.bool m n =>
    cases ht:isBoolT P t with
    | true =>
      cases op<;>simp only[binT,ht]at hw ⊢<;>first
        | exact hw.elim
        | exact⟨_,hw,fun _ _ h'=>h'⟩
    | false=>cases op<;>simp only[binT,ht]at hw<;>exact hw.elim
theorem float_re(hf:isFloat C E o=true)(hd:o.dst=some d)(hw:(opT C fin ro q o E k).wp X C.P Q h) :
    ∃ a,(k ((d,a)::E)).wp X C.P Q h/\∀ (E':Env) (k':Env->T) Q',(∀ x∈o.op.operands.toList,opdA E' x=opdA E x)->(∀ s,4096<=s->E'.get s=E.get s)->(k' ((d,a)::E')).wp X C.P Q' h->(opT C fin ro q o E' k').wp X C.P Q' h:=by
  unfold opT at hw ⊢;unfold isFloat at hf;simp only[setD,hd]at hw ⊢;cases hop:o.op<;>rw[hop]at hw hf<;>simp only at hw hf ⊢<;>try (cases hf;done)
  case move x =>
    obtain⟨a,ha,hw⟩:=withA_wp hw;refine⟨a,hw,fun E' k' Q' hx _ h'=>?_⟩;rw[hx x (by simp[Op.operands]),ha];exact h'
  case pick c x y =>
    obtain⟨v,hv,hw⟩:=withV_wp hw;cases v<;>simp only[T.unB]at hw<;>first|exact hw.elim|skip
    rename_i b;cases b<;>simp only[cond_true,cond_false]at hw
    · obtain⟨a,ha,hw⟩:=withA_wp hw
      refine⟨a,hw,fun E' k' Q' hx _ h'=>?_⟩;rw[hx c (by simp[Op.operands]),hx y (by simp[Op.operands]),hv,ha];exact h'
    · obtain⟨a,ha,hw⟩:=withA_wp hw
      refine⟨a,hw,fun E' k' Q' hx _ h'=>?_⟩;rw[hx c (by simp[Op.operands]),hx x (by simp[Op.operands]),hv,ha];exact h'
  case nilCheck x =>
    split at hw
    · rename_i i j hx0
      refine⟨_,hw,fun E' k' Q' hx _ h'=>?_⟩;rw[hx x (by simp[Op.operands]),hx0];exact h'
    · rename_i p hx0
      obtain⟨a,rfl,hw⟩:=hw;refine⟨_,hw,fun E' k' Q' hx _ h'=>?_⟩;rw[hx x (by simp[Op.operands]),hx0];exact⟨a,rfl,h'⟩
    · exact hw.elim
  case fieldAddr s x f =>
    split at hw
    · rename_i off i j h1 h2
      refine⟨_,hw,fun E' k' Q' hx _ h'=>?_⟩;rw[hx x (by simp[Op.operands]),h1,h2];exact h'
    · rename_i off a h1 h2
      refine⟨_,hw,fun E' k' Q' hx _ h'=>?_⟩;rw[hx x (by simp[Op.operands]),h1,h2];exact h'
    · exact hw.elim
  case indexAddr t x i =>
    split at hw
    · rename_i el p n c kk m h1 h2 h3
      split at hw
      · rename_i z hz
        obtain⟨hb,a,rfl,hw⟩:=hw;refine⟨_,hw,fun E' k' Q' hx _ h'=>?_⟩;rw[hx x (by simp[Op.operands]),hx i (by simp[Op.operands]),h1,h2,h3];simp only[hz];exact⟨hb,a,rfl,h'⟩
      · exact hw.elim
    · rename_i n el a kk m h1 h2 h3
      split at hw
      · rename_i z hz
        obtain⟨hb,hw⟩:=hw;refine⟨_,hw,fun E' k' Q' hx _ h'=>?_⟩;rw[hx x (by simp[Op.operands]),hx i (by simp[Op.operands]),h1,h2,h3];simp only[hz];exact⟨hb,h'⟩
      · exact hw.elim
    · exact hw.elim
  case load t x =>
    split at hw
    · rename_i i j hx0
      split at hw
      · rename_i v hv
        refine⟨_,hw,fun E' k' Q' hx hp h'=>?_⟩;rw[hx x (by simp[Op.operands]),hx0];simp only[privLoad_agree hp,hv];exact h'
      · exact hw.elim
    · rename_i a hx0
      split at hw
      · rename_i ks h1 h2
        split at hw
        · rename_i hb
          obtain⟨l,hl,re⟩:=loadL_re hw;refine⟨_,hl,fun E' k' Q' hx _ h'=>?_⟩;rw[hx x (by simp[Op.operands]),hx0];simp only[h1,h2,hb];exact re (fun l=>k' ((d,.val (.agg l.toArray))::E')) Q' h'
        · exact hw.elim
      · rename_i kd h1 h2
        obtain⟨v,hl,re⟩:=loadK_re hw;refine⟨_,hl,fun E' k' Q' hx _ h'=>?_⟩;rw[hx x (by simp[Op.operands]),hx0];simp only[h1,h2];exact re (fun v=>k' ((d,.val v)::E')) Q' h'
      · exact hw.elim
    · exact hw.elim
  case extract x i =>
    split at hw
    · rename_i vs hx0
      split at hw
      · rename_i v hv
        refine⟨_,shaped_wp hw,fun E' k' Q' hx _ h'=>?_⟩;rw[hx x (by simp[Op.operands]),hx0];simp only[hv];rw[shaped_eq hw];exact h'
      · exact hw.elim
    · exact hw.elim
  case makeFunc f fs cs =>
    obtain⟨l,hl,hw⟩:=withVs_vals hw;obtain⟨m,hm,hw⟩:=withVs_vals hw;refine⟨_,hw,fun E' k' Q' hx _ h'=>?_⟩;have h1:valsE E' fs.toList=some l:=by rw[valsE_agree (fun x hx'=>hx x (by simp[Op.operands];exact .inl (by simpa using hx')))];exact hl
    have h2:valsE E' cs.toList=some m:=by rw[valsE_agree (fun x hx'=>hx x (by simp[Op.operands];exact .inr (by simpa using hx')))];exact hm
    rw[withVs_eq h1,withVs_eq h2];exact h'
  case binOp op t x y z =>
    obtain⟨a,ha,hw⟩:=withV_wp hw;obtain⟨b,hb,hw⟩:=withV_wp hw;rw[ha,hb]at hf;obtain⟨v,hv,re⟩:=binT_re hf hw;refine⟨_,hv,fun E' k' Q' hx _ h'=>?_⟩;rw[hx x (by simp[Op.operands]),hx y (by simp[Op.operands]),ha,hb];exact re (fun v=>k' ((d,.val v)::E')) Q' h'
  case unOp u t x =>
    obtain⟨a,ha,hw⟩:=withV_wp hw;cases u<;>simp only at hf<;>try (cases hf;done)
    rw[ha]at hf;cases a<;>simp only at hf<;>try (cases hf;done)
    refine⟨_,hw,fun E' k' Q' hx _ h'=>?_⟩;rw[hx x (by simp[Op.operands]),ha];exact h'
  case field t x f =>
    obtain⟨a,ha,hw⟩:=withV_wp hw;split at hw
    · rename_i fs cs h1
      split at hw
      · rename_i fd h2
        split at hw
        · rename_i h3
          refine⟨_,hw,fun E' k' Q' hx _ h'=>?_⟩;rw[hx x (by simp[Op.operands]),ha];simp only[withV,h1,h2,h3];exact h'
        · rename_i h3
          split at hw
          · rename_i u v h4 h5
            refine⟨_,hw,fun E' k' Q' hx _ h'=>?_⟩;rw[hx x (by simp[Op.operands]),ha];simp only[withV,h1,h2,h3,h4,h5];exact h'
          · exact hw.elim
      · exact hw.elim
    · exact hw.elim
  case makeInterface t x =>
    obtain⟨a,ha,hw⟩:=withV_wp hw;cases hu:C.P.underlying t with
    | none=>rw[hu]at hw;exact hw.elim
    | some u =>
      rw[hu]at hw;cases u<;>first
        | exact hw.elim
        | (refine⟨_,hw,fun E' k' Q' hx _ h'=>?_⟩
           rw[hx x (by simp[Op.operands]),ha];simp only[withV];exact h')
  case build t ps =>
    obtain⟨l,hl,hw⟩:=withParts_vals hw;simp only[hf]at hw;split at hw
    · rename_i v hv
      refine⟨_,hw,fun E' k' Q' hx _ h'=>?_⟩;have h1:valsE E' (ps.toList.map (·.2))=some l:=by rw[valsE_agree (fun x hx'=>hx x (by simp[Op.operands];simpa using hx'))];exact hl
      rw[withParts_eq h1];simp only[hf,hv];exact h'
    · exact hw.elim
  case convert a b x =>
    obtain⟨v,hv,hw⟩:=withV_wp hw;rw[hv]at hf;split at hf
    · rename_i u kk kv n h1 h2 h3
      cases h3;rw[h1,h2]at hw;refine⟨_,hw,fun E' k' Q' hx _ h'=>?_⟩;rw[hx x (by simp[Op.operands]),hv];simp only[withV,h1,h2];exact h'
    · cases hf
  case call c =>
    obtain⟨l,hl,hw⟩:=withVs_vals hw;have hag:∀ E':Env,(∀ x∈(Op.call c).operands.toList,opdA E' x=opdA E x)->valsE E' c.args.toList=some l:=by
      intro E' hx;rw[valsE_agree (fun x hx'=>hx x ?_)]
      · exact hl
      · simp only[Op.operands,Call.operands]
        cases c.callee<;>simp<;>first|exact .inr (by simpa using hx')|simpa using hx'
    have hvals:∀ (xs:List Operand) (vs:List Value),valsE E xs=some vs->isFloat.withL E xs=vs.map (fun v=>some (.val v)):=by
      intro xs
      induction xs with
      | nil=>intro vs hv;cases hv;rfl
      | cons x xs ih =>
        intro vs hv;rw[valsE]at hv;split at hv
        · rename_i v vs' h1 h2
          cases hv;rw[isFloat.withL,h1,ih vs' h2];rfl
        · cases hv
    rw[hvals _ _ hl]at hf;split at hf
    · rename_i a n c' h1 h2
      obtain⟨v,rfl,e⟩ : ∃ v,l=[v]/\v=.slice a n c':=by
        cases l with
        | nil=>cases h2
        | cons v l=>cases l with
          | nil=>simp at h2;exact⟨v,rfl,h2⟩
          | cons _ _=>simp at h2
      subst e;rw[h1]at hw;simp only[hf]at hw;refine⟨_,hw,fun E' k' Q' hx _ h'=>?_⟩;rw[withVs_eq (hag E' hx),h1];simp only[hf];exact h'
    · rename_i k1 x1 k2 x2 h1 h2
      obtain⟨rfl⟩ : l=[.int k1 x1,.int k2 x2]:=by
        match l,h2 with
        | [a,b],h2=>simp at h2;rw[h2.1,h2.2]
      rw[h1]at hw;refine⟨_,hw,fun E' k' Q' hx _ h'=>?_⟩;rw[withVs_eq (hag E' hx),h1];exact h'
    · rename_i k1 x1 k2 x2 h1 h2
      obtain⟨rfl⟩ : l=[.int k1 x1,.int k2 x2]:=by
        match l,h2 with
        | [a,b],h2=>simp at h2;rw[h2.1,h2.2]
      rw[h1]at hw;refine⟨_,hw,fun E' k' Q' hx _ h'=>?_⟩;rw[withVs_eq (hag E' hx),h1];exact h'
    · cases hf
end
end
section
/-! ### Orders -/
inductive Ord(ops:Array Oper):(Nat->Bool)->List Nat->Prop
 | nil (Lm:Nat->Bool):(∀ (i:Nat) (o:Oper),ops[i]?=some o->Lm i=false->∃ j∈predsOf o,Lm j=false)->Ord ops Lm []
 | cons (Lm:Nat->Bool) (i:Nat) (o:Oper) (l:List Nat):ops[i]?=some o->Lm i=false->(∀ j∈predsOf o,Lm j=true)->Ord ops (fun x=>Nat.beq x i||Lm x) l->Ord ops Lm (i::l)
theorem mem_predsL{l:List Edge}{j:Nat}:j∈predsL l↔∃ e∈l,Region.binds .any e=true/\e.on=j:=by
 induction l with
 | nil=>simp[predsL]
 | cons e l ih =>
  rw[predsL];cases hb:Region.binds .any e with
  | true =>
   simp only[List.mem_cons,ih];constructor
   ·rintro(rfl|⟨e',h1,h2⟩)
    ·exact⟨e,.inl rfl,hb,rfl⟩
    ·exact⟨e',.inr h1,h2⟩
   ·rintro⟨e',rfl|h1,h2,h3⟩
    ·exact .inl h3.symm
    ·exact .inr ⟨e',h1,h2,h3⟩
  | false =>
   simp only[ih,List.mem_cons];constructor
   ·rintro⟨e',h1,h2⟩;exact⟨e',.inr h1,h2⟩
   ·rintro⟨e',rfl|h1,h2,h3⟩
    ·rw[hb]at h2;cases h2
    ·exact⟨e',h1,h2,h3⟩
theorem mem_predsOf{o:Oper}{j:Nat}:j∈predsOf o↔∃ e∈o.after,Region.binds .any e=true/\e.on=j:=by
 unfold predsOf;rw[mem_predsL];simp
def unl(listed:Array Bool):Nat:=listed.toList.countP (fun b=>!b)
theorem countP_set:∀ (l:List Bool) (i:Nat),l[i]?=some false->(l.set i true).countP (fun b=>!b)+1=l.countP (fun b=>!b):=by
 intro l
 induction l with
 | nil=>intro i hl;simp at hl
 | cons b l ih =>
  intro i hl;cases i with
  | zero=>simp at hl;subst hl;simp
  | succ i =>
   simp only[List.getElem?_cons_succ]at hl;simp only[List.set_cons_succ,List.countP_cons];have:=ih i hl;omega
theorem unl_set{listed:Array Bool}{i:Nat}(h:listed[i]?=some false):unl (listed.setIfInBounds i true)+1=unl listed:=by
 unfold unl;rw[Array.toList_setIfInBounds];exact countP_set _ _ (by simpa using h)
theorem unl_zero{listed:Array Bool}(h:unl listed=0){i:Nat}:listed[i]?≠some false:=by
 unfold unl at h;rw[List.countP_eq_zero]at h;intro hi;have hl:listed.toList[i]?=some false:=by simpa using hi
 exact h false (List.mem_of_getElem? hl) rfl
theorem go_ord{ops:Array Oper}:∀ (fuel t:Nat) (listed:Array Bool) (acc:List Nat),listed.size=ops.size->unl listed<=fuel ->
  ∃ l,Region.linearise.go .any ops fuel t listed acc=acc.reverse++l/\Ord ops (fun i=>listed.getD i false) l:=by
 intro fuel
 induction fuel with
 | zero =>
  intro t listed acc hsz hu;refine⟨[],by simp[Region.linearise.go],.nil _ ?_⟩;intro i o ho hf;exfalso;have hlt:i<listed.size:=by rw[hsz];exact(Array.getElem?_eq_some_iff.1 ho).1
  have:listed[i]?=some false:=by
   rw[Array.getElem?_eq_getElem hlt];simp only[Array.getD_eq_getD_getElem?,Array.getElem?_eq_getElem hlt,Option.getD_some]at hf;rw[hf]
  exact unl_zero (Nat.le_zero.1 hu) this
 | succ fuel ih =>
  intro t listed acc hsz hu;unfold Region.linearise.go;simp only;generalize hrs:(List.range ops.size).filter (fun i=>!listed.getD i true&&((ops[i]?).map (·.after.all fun e=>!Region.binds .any e||listed.getD e.on false)).getD false)=rs;have hmem:∀ i,i∈rs↔i<ops.size/\listed.getD i true=false/\∃ o,ops[i]?=some o/\∀ j∈predsOf o,listed.getD j false=true:=by
   intro i;rw[<- hrs,List.mem_filter,List.mem_range];simp only[Bool.and_eq_true,Bool.not_eq_true'];refine and_congr_right fun hlt=>and_congr_right fun _=>?_;have ho:ops[i]?=some ops[i]:=Array.getElem?_eq_getElem hlt;rw[ho];simp only[Option.map_some,Option.getD_some,Option.some.injEq,exists_eq_left',mem_predsOf,Array.all_eq_true_iff_forall_mem,Bool.or_eq_true,Bool.not_eq_true'];constructor
   ·rintro h j ⟨e,he,hb,rfl⟩;rcases h e he with h'|h'
    ·rw[hb]at h';cases h'
    ·exact h'
   ·intro h e he;cases hb:Region.binds .any e with
    | false=>exact .inl rfl
    | true=>exact .inr (h e.on ⟨e,he,hb,rfl⟩)
  split
  ·rename_i i hi;have him:i∈rs:=List.mem_of_getElem? hi;obtain⟨hlt,hf,o,ho,hp⟩:=(hmem i).1 him;have hlt':i<listed.size:=by rw[hsz];exact hlt
   have hfalse:listed[i]?=some false:=by
    rw[Array.getElem?_eq_getElem hlt'];simp only[Array.getD_eq_getD_getElem?,Array.getElem?_eq_getElem hlt',Option.getD_some]at hf;rw[hf]
   obtain⟨l,hl,hO⟩:=ih (t / rs.length) (listed.setIfInBounds i true) (i::acc) (by simp[hsz]) (by have:=unl_set hfalse;omega);refine⟨i::l,by rw[hl];simp,.cons _ i o l ho ?_ hp ?_⟩
   ·simp[Array.getD_eq_getD_getElem?,hfalse]
   ·have e:(fun x=>(listed.setIfInBounds i true).getD x false)=fun x=>Nat.beq x i||listed.getD x false:=by
     funext x;cases hb:Nat.beq x i with
     | true=>have:=nbeq_true hb;subst this;simp[Array.getD_eq_getD_getElem?,hlt']
     | false =>
      have:=nbeq_false hb;simp[Array.getD_eq_getD_getElem?,Array.getElem?_setIfInBounds_ne (Ne.symm this)]
    rw[<- e];exact hO
  ·rename_i hnone;refine⟨[],by simp,.nil _ ?_⟩;intro i o ho hf;by_cases hex:∃ j∈predsOf o,listed.getD j false=false
   ·exact hex
   ·exfalso;have hlt:i<ops.size:=(Array.getElem?_eq_some_iff.1 ho).1;have hlt':i<listed.size:=by rw[hsz];exact hlt
    have him:i∈rs:=(hmem i).2 ⟨hlt,by simpa[Array.getD_eq_getD_getElem?,Array.getElem?_eq_getElem hlt'] using hf,o,ho,fun j hj=>by
     cases hb:listed.getD j false with
     | true=>rfl
     | false=>exact absurd ⟨j,hj,hb⟩ hex⟩
    have hpos:0<rs.length:=List.length_pos_of_mem him;have:=List.getElem?_eq_getElem (Nat.mod_lt t hpos);rw[hnone]at this;cases this
theorem schedule_ord(ops:Array Oper)(t:Nat):Ord ops (fun _=>false) (Region.schedule true ops t):=by
 unfold Region.schedule Region.linearise;simp only[Bool.true_or,if_true];obtain⟨l,hl,hO⟩:=go_ord (ops:=ops) ops.size t (Array.replicate ops.size false) [] (by simp) (by
  unfold unl;exact Nat.le_trans List.countP_le_length (by simp))
 rw[hl];have e:(fun i=>(Array.replicate ops.size false).getD i false)=fun _=>false:=by
  funext i;simp only[Array.getD_eq_getD_getElem?,Array.getElem?_replicate];split<;>rfl
 rw[e]at hO;simpa using hO
theorem edgesOk_spec:∀ (l:List Oper) (n:Nat),edgesOk n l=true->∀ (i:Nat) (o:Oper),l[i]?=some o->∀ j∈predsOf o,j<n+i:=by
 have back:∀ (i:Nat) (l:List Nat),backL i l=true->∀ j∈l,j<i:=by
  intro i l
  induction l with
  | nil=>intro _ j hj;cases hj
  | cons a l ih =>
   intro h j hj;rw[backL]at h;simp only[Bool.and_eq_true,Bool.not_eq_true']at h;rcases List.mem_cons.1 hj with rfl|hj
   ·have:=h.1;rcases Nat.lt_or_ge j i with hlt|hge
    ·exact hlt
    ·rw[Nat.ble_eq_true_of_le hge]at this;cases this
   ·exact ih h.2 j hj
 intro l
 induction l with
 | nil=>intro n _ i o h;simp at h
 | cons a l ih =>
  intro n h i o hi j hj;rw[edgesOk]at h;simp only[Bool.and_eq_true]at h;cases i with
  | zero=>simp at hi;subst hi;exact back n _ h.1 j hj
  | succ i=>have:=ih (n+1) h.2 i o (by simpa using hi) j hj;omega
theorem Ord.full{ops:Array Oper}{Lm:Nat->Bool}(hE:edgesOk 0 ops.toList=true)(h:Ord ops Lm []):∀ (i:Nat) (o:Oper),ops[i]?=some o->Lm i=true:=by
 cases h with
 | nil _ hn =>
  intro i
  induction i using Nat.strongRecOn with
  | _ i ih =>
   intro o ho;cases hb:Lm i with
   | true=>rfl
   | false =>
    exfalso;obtain⟨j,hj,hf⟩:=hn i o ho hb;have hlt:=edgesOk_spec ops.toList 0 hE i o (by simpa using ho) j hj;rw[Nat.zero_add]at hlt;have hj':j<ops.size:=Nat.lt_trans hlt (Array.getElem?_eq_some_iff.1 ho).1;rw[ih j hlt ops[j] (Array.getElem?_eq_getElem hj')]at hf;cases hf
/-! ### Environments with promises -/
theorem Sim.weak{σ:Nat->Nat}{ro:List Nat}{PB:Nat->Prop}{e e':Env}{tmps:Array Value}{hp:Cells}(s:Sim σ ro PB e tmps hp)(h:∀ t a,e'.get t=some a->e.get t=some a):Sim σ ro PB e' tmps hp where
 slot i a hi hg:=s.slot i a hi (h i a hg)
 cell t v ht hg:=s.cell t v ht (h t _ hg)
 only t a ht hg:=s.only t a ht (h t a hg)
 inj t t' a a' ht ht' hg hg':=s.inj t t' a a' ht ht' (h t a hg) (h t' a' hg')
 prot t a ht hg:=s.prot t a ht (h t a hg)
 cover t a ht hg:=s.cover t a ht (h t a hg)
theorem Sim.addSlot{σ:Nat->Nat}{ro:List Nat}{PB:Nat->Prop}{e:Env}{tmps:Array Value}{hp:Cells}(s:Sim σ ro PB e tmps hp){d:Nat}{a:AV}(hd:d<4096)(ht:a≠.bad->tmps[d]?=some (conc σ a)):Sim σ ro PB ((d,a)::e) tmps hp:=by
 have hget:∀ i,Env.get ((d,a)::e) i=if d=i then some a else e.get i:=fun i=>Env.get_cons _ _ _ _
 have hge:∀ t,4096<=t->Env.get ((d,a)::e) t=e.get t:=fun t ht=>by rw[hget,if_neg (Nat.ne_of_lt (Nat.lt_of_lt_of_le hd ht))]
 refine⟨?_,fun t v h1 hg=>s.cell t v h1 (hge t h1▸hg),fun t b h1 hg=>s.only t b h1 (hge t h1▸hg),fun t t' b b' h1 h2 hg hg'=>s.inj t t' b b' h1 h2 (hge t h1▸hg) (hge t' h2▸hg'),fun t b h1 hg=>s.prot t b h1 (hge t h1▸hg),fun t b h1 hg=>s.cover t b h1 (hge t h1▸hg)⟩;intro i b hi hg hb;rw[hget]at hg;by_cases e':d=i
 ·subst e';rw[if_pos rfl]at hg;cases hg;exact ht hb
 ·rw[if_neg e']at hg;exact s.slot i b hi hg hb
theorem penvE_none{l:List PE}{e:Env}{s:Nat}(h:∀ p∈l,p.d≠s):(penvE l e).get s=e.get s:=by
 induction l with
 | nil=>rfl
 | cons p l ih =>
  rw[penvE,Env.get_cons,if_neg (h p (by simp)),ih fun p hp=>h p (by simp[hp])]
def Apart(l:List PE):Prop:=l.Pairwise fun p p'=>p.d≠p'.d/\p.i≠p'.i
theorem Apart.filter{l:List PE}(h:Apart l)(f:PE->Bool):Apart (l.filter f):=List.Pairwise.filter _ h
theorem Apart.dst{l:List PE}(h:Apart l){p p':PE}(hp:p∈l)(hp':p'∈l)(e:p.d=p'.d):p=p':=by
 induction l with
 | nil=>cases hp
 | cons a l ih =>
  cases h with
  | cons h1 h2 =>
   rcases List.mem_cons.1 hp with q|q<;>rcases List.mem_cons.1 hp' with q'|q'
   ·exact q.trans q'.symm
   ·exact absurd (q▸e) (h1 p' q').1
   ·exact absurd (q'▸e).symm (h1 p q).1
   ·exact ih h2 q q'
theorem Apart.idx{l:List PE}(h:Apart l){p p':PE}(hp:p∈l)(hp':p'∈l)(e:p.i=p'.i):p=p':=by
 induction l with
 | nil=>cases hp
 | cons a l ih =>
  cases h with
  | cons h1 h2 =>
   rcases List.mem_cons.1 hp with q|q<;>rcases List.mem_cons.1 hp' with q'|q'
   ·exact q.trans q'.symm
   ·exact absurd (q▸e) (h1 p' q').2
   ·exact absurd (q'▸e).symm (h1 p q).2
   ·exact ih h2 q q'
theorem penvE_some{l:List PE}{e:Env}(h:Apart l){p:PE}(hp:p∈l):(penvE l e).get p.d=some p.a:=by
 induction l with
 | nil=>cases hp
 | cons a l ih =>
  cases h with
  | cons h1 h2 =>
   rw[penvE,Env.get_cons];rcases List.mem_cons.1 hp with rfl|hp
   ·rw[if_pos rfl]
   ·rw[if_neg (h1 p hp).1];exact ih h2 hp
theorem mem_idxL{l:List PE}{i:Nat}:i∈idxL l↔∃ p∈l,p.i=i:=by
 induction l with
 | nil=>simp[idxL]
 | cons p l ih =>
  simp only[idxL,List.mem_cons,ih];constructor
  ·rintro(rfl|⟨q,h1,h2⟩)
   ·exact⟨p,.inl rfl,rfl⟩
   ·exact⟨q,.inr h1,h2⟩
  ·rintro⟨q,rfl|h1,h2⟩
   ·exact .inl h2.symm
   ·exact .inr ⟨q,h1,h2⟩
theorem mem_dstL{l:List PE}{i:Nat}:i∈dstL l↔∃ p∈l,p.d=i:=by
 induction l with
 | nil=>simp[dstL]
 | cons p l ih =>
  simp only[dstL,List.mem_cons,ih];constructor
  ·rintro(rfl|⟨q,h1,h2⟩)
   ·exact⟨p,.inl rfl,rfl⟩
   ·exact⟨q,.inr h1,h2⟩
  ·rintro⟨q,rfl|h1,h2⟩
   ·exact .inl h2.symm
   ·exact .inr ⟨q,h1,h2⟩
theorem allMem_iff{l m:List Nat}:allMem l m=true↔∀ i∈l,i∈m:=by
 induction l with
 | nil=>simp[allMem]
 | cons i l ih=>simp[allMem,ih,memN_iff]
theorem isReady_iff{ops:Array Oper}{done:List Nat}{i:Nat}:isReady ops done i=true↔∃ o,ops[i]?=some o/\i∉done/\∀ j∈predsOf o,j∈done:=by
 unfold isReady;cases ops[i]? with
 | none=>simp
 | some o =>
  simp only[Bool.and_eq_true,Bool.not_eq_true',memN_false,allMem_iff,Option.some.injEq,exists_eq_left']
theorem pickF_some{C:Ctx}{ops:Array Oper}{E:Env}{done:List Nat}{i:Nat}{o:Oper}{d:Nat}:∀ {l:List Nat},pickF C ops E done l=.some i o d->ops[i]?=some o/\i∉done/\(∀ j∈predsOf o,j∈done)/\isFloat C E o=true/\o.dst=some d:=by
 intro l
 induction l with
 | nil=>intro h;cases h
 | cons j l ih =>
  intro h;rw[pickF]at h;split at h
  ·rename_i o' ho hr;split at h
   ·rename_i d' hf hd;cases h;obtain⟨o'',h1,h2,h3⟩:=isReady_iff.1 hr;rw[ho]at h1;cases h1;exact⟨ho,h2,h3,hf,hd⟩
   ·exact ih h
  ·exact ih h
theorem mem_readyL{ops:Array Oper}{done:List Nat}{i:Nat}:∀ {l:List Nat},i∈readyL ops done l↔i∈l/\isReady ops done i=true:=by
 intro l
 induction l with
 | nil=>simp[readyL]
 | cons j l ih =>
  rw[readyL];cases hr:isReady ops done j with
  | true =>
   simp only[List.mem_cons,ih];constructor
   ·rintro(rfl|⟨h1,h2⟩)
    ·exact⟨.inl rfl,hr⟩
    ·exact⟨.inr h1,h2⟩
   ·rintro⟨rfl|h1,h2⟩
    ·exact .inl rfl
    ·exact .inr ⟨h1,h2⟩
  | false =>
   simp only[ih,List.mem_cons];constructor
   ·rintro⟨h1,h2⟩;exact⟨.inr h1,h2⟩
   ·rintro⟨rfl|h1,h2⟩
    ·rw[hr]at h2;cases h2
    ·exact⟨h1,h2⟩
theorem splitP_spec{pr:List Nat}:∀ {l:List PE},(∀ p,p∈(splitP pr l).1↔p∈l/\p.i∈pr)/\(∀ p,p∈(splitP pr l).2↔p∈l/\p.i∉pr)/\(Apart l->Apart (splitP pr l).1/\Apart (splitP pr l).2):=by
 intro l
 induction l with
 | nil=>exact⟨fun p=>by simp[splitP],fun p=>by simp[splitP],fun _=>⟨List.Pairwise.nil,List.Pairwise.nil⟩⟩
 | cons q l ih =>
  obtain⟨h1,h2,h3⟩:=ih;have e:splitP pr (q::l)=match memN pr q.i with|true=>(q::(splitP pr l).1,(splitP pr l).2)|false=>((splitP pr l).1,q::(splitP pr l).2):=by
   rw[splitP];cases memN pr q.i<;>rfl
  rw[e];cases hm:memN pr q.i with
  | true =>
   have hm':=memN_iff.1 hm;refine⟨fun p=>?_,fun p=>?_,fun ha=>?_⟩
   ·simp only[List.mem_cons,h1];constructor
    ·rintro(rfl|⟨a,b⟩)
     ·exact⟨.inl rfl,hm'⟩
     ·exact⟨.inr a,b⟩
    ·rintro⟨rfl|a,b⟩
     ·exact .inl rfl
     ·exact .inr ⟨a,b⟩
   ·simp only[List.mem_cons,h2];constructor
    ·rintro⟨a,b⟩;exact⟨.inr a,b⟩
    ·rintro⟨rfl|a,b⟩
     ·exact absurd hm' b
     ·exact⟨a,b⟩
   ·cases ha with
    | cons a b=>exact⟨List.Pairwise.cons (fun p hp=>a p ((h1 p).1 hp).1) (h3 b).1,(h3 b).2⟩
  | false =>
   have hm':=memN_false.1 hm;refine⟨fun p=>?_,fun p=>?_,fun ha=>?_⟩
   ·simp only[List.mem_cons,h1];constructor
    ·rintro⟨a,b⟩;exact⟨.inr a,b⟩
    ·rintro⟨rfl|a,b⟩
     ·exact absurd b hm'
     ·exact⟨a,b⟩
   ·simp only[List.mem_cons,h2];constructor
    ·rintro(rfl|⟨a,b⟩)
     ·exact⟨.inl rfl,hm'⟩
     ·exact⟨.inr a,b⟩
    ·rintro⟨rfl|a,b⟩
     ·exact .inl rfl
     ·exact .inr ⟨a,b⟩
   ·cases ha with
    | cons a b=>exact⟨(h3 b).1,List.Pairwise.cons (fun p hp=>a p ((h2 p).1 hp).1) (h3 b).2⟩
section
variable {X:XP} {C:Ctx} {Q:Leaf->LH->Prop} {h:LH}
theorem headT_wp{P:Program}{d:Nat}{a:AV}{tl:Env}{k:AV->T}(hw:(headT ((d,a)::tl) d k).wp X P Q h):a≠.bad/\(k a).wp X P Q h:=by
 unfold headT at hw;simp only[nbeq_self]at hw;cases a with
 | val v=>exact⟨by simp,hw⟩
 | pp n j=>exact⟨by simp,hw⟩
 | bad=>exact hw.elim
theorem splitA_wp{P:Program}{g:Bool}{a:AV}{k:AV->T}(hb:a≠.bad)(hw:(splitA g a k).wp X P Q h):(k a).wp X P Q h:=by
 unfold splitA at hw;split at hw
 ·rename_i b;cases b<;>exact hw
 ·exact hw
theorem opdA_congr{E E':Env}{x:Operand}(h:∀ t,x=.tmp t->E'.get t=E.get t):opdA E' x=opdA E x:=by
 cases x with
 | tmp t=>show slotA E' t=slotA E t;unfold slotA;rw[h t rfl]
 | _=>rfl
theorem mem_tmpsL{l:List Operand}{t:Nat}:t∈tmpsL l↔.tmp t∈l:=by
 induction l with
 | nil=>simp[tmpsL]
 | cons x l ih=>cases x<;>simp[tmpsL,ih]
theorem isFloat_congr{E E':Env}{o:Oper}(h:∀ s,E'.get s=E.get s):isFloat C E' o=isFloat C E o:=by
 have e:opdA E'=opdA E:=by funext x;exact opdA_congr fun t _=>h t
 have e2:isFloat.withL E'=isFloat.withL E:=by
  funext l
  induction l with
  | nil=>rfl
  | cons x l ih=>rw[isFloat.withL,isFloat.withL,ih,e]
 unfold isFloat;rw[e,e2]
theorem guard_re{fin q:Bool}{ro:List Nat}{ops:Array Oper}{o:Oper}{E:Env}{k:Env->T}{d:Nat}(hf:isFloat C E o=true)(hd:o.dst=some d)(hw:(guardT C fin ro q ops o E k).wp X C.P Q h) :
  ∃ a tail,(∀ s,Env.get tail s=E.get s)/\(k ((d,a)::tail)).wp X C.P Q h/\∀ (E':Env) (k':Env->T) Q',(∀ s∈looksL ops o,E'.get s=E.get s)->(∀ s,4096<=s->E'.get s=E.get s) ->
   (∀ tail':Env,(∀ s,tail'.get s=E'.get s)->(k' ((d,a)::tail')).wp X C.P Q' h)->(guardT C fin ro q ops o E' k').wp X C.P Q' h:=by
 unfold guardT at hw ⊢;cases hg:o.guard with
 | none =>
  rw[hg]at hw;obtain⟨a,h1,re⟩:=float_re hf hd hw;refine⟨a,E,fun _=>rfl,h1,fun E' k' Q' hl hp hk=>?_⟩;have hl':∀ t∈tmpsL o.op.operands.toList,E'.get t=E.get t:=by intro t ht;exact hl t (by unfold looksL;rw[hg];exact ht)
  exact re E' k' Q' (fun x hx=>opdA_congr fun t e=>hl' t (mem_tmpsL.2 (e▸hx))) hp (hk E' fun _=>rfl)
 | some g =>
  obtain⟨j,want⟩:=g;rw[hg]at hw;simp only at hw ⊢;cases hj:(ops[j]?).bind (·.dst) with
  | none=>rw[hj]at hw;exact hw.elim
  | some dg =>
   rw[hj]at hw;simp only at hw ⊢;have hlook:looksL ops o=dg::tmpsL o.op.operands.toList:=by unfold looksL;rw[hg];simp only[hj]
   cases hb:slotA E dg with
   | none=>rw[hb]at hw;exact hw.elim
   | some av =>
    rw[hb]at hw;cases av with
    | pp _ _=>exact hw.elim
    | bad=>exact hw.elim
    | val v =>
     cases v<;>first|exact hw.elim|skip
     case tuple vs =>
      rw[hd]at hw;refine⟨.val undef,E,fun _=>rfl,hw,fun E' k' Q' hl hp hk=>?_⟩;have he:E'.get dg=E.get dg:=hl dg (by rw[hlook];simp);obtain⟨hlt,hget⟩:=slotA_some hb;have hb':slotA E' dg=some (.val (.tuple vs)):=by unfold slotA;rw[isPriv_false.2 hlt,he,hget]
      rw[hb',hd];exact hk E' fun _=>rfl
     rename_i b;obtain⟨hlt,hget⟩:=slotA_some hb;have same:∀ s,Env.get ((dg,.val (.bool b))::E) s=E.get s:=by
      intro s;rw[Env.get_cons];by_cases e:dg=s
      ·subst e;rw[if_pos rfl,hget]
      ·rw[if_neg e]
     have same':∀ E':Env,E'.get dg=E.get dg->∀ s,Env.get ((dg,.val (.bool b))::E') s=E'.get s:=by
      intro E' he s;rw[Env.get_cons];by_cases e:dg=s
      ·subst e;rw[if_pos rfl,he,hget]
      ·rw[if_neg e]
     have hb':∀ E':Env,E'.get dg=E.get dg->slotA E' dg=some (.val (.bool b)):=by
      intro E' he;unfold slotA;rw[isPriv_false.2 hlt,he,hget]
     have yes:(opT C fin ro q o ((dg,.val (.bool b))::E) k).wp X C.P Q h->∃ a tail,(∀ s,Env.get tail s=E.get s)/\(k ((d,a)::tail)).wp X C.P Q h/\∀ (E':Env) (k':Env->T) Q',(∀ s∈looksL ops o,E'.get s=E.get s)->(∀ s,4096<=s->E'.get s=E.get s) ->
       (∀ tail':Env,(∀ s,tail'.get s=E'.get s)->(k' ((d,a)::tail')).wp X C.P Q' h)->slotA E' dg=some (.val (.bool b))/\(opT C fin ro q o ((dg,.val (.bool b))::E') k').wp X C.P Q' h:=by
      intro hw;obtain⟨a,h1,re⟩:=float_re (by rw[isFloat_congr same];exact hf) hd hw;refine⟨a,_,same,h1,fun E' k' Q' hl hp hk=>?_⟩;have he:E'.get dg=E.get dg:=hl dg (by rw[hlook];simp);refine⟨hb' E' he,re _ k' Q' (fun x hx=>opdA_congr fun t e=>?_) (fun s hs=>?_) (hk _ (same' E' he))⟩
      ·rw[same' E' he,same,hl t (by rw[hlook];exact List.mem_cons_of_mem _ (mem_tmpsL.2 (e▸hx)))]
      ·rw[same' E' he,same,hp s hs]
     have no:(k (setD ((dg,.val (.bool b))::E) o.dst (.val undef))).wp X C.P Q h->∃ a tail,(∀ s,Env.get tail s=E.get s)/\(k ((d,a)::tail)).wp X C.P Q h/\∀ (E':Env) (k':Env->T) Q',(∀ s∈looksL ops o,E'.get s=E.get s)->(∀ s,4096<=s->E'.get s=E.get s) ->
       (∀ tail':Env,(∀ s,tail'.get s=E'.get s)->(k' ((d,a)::tail')).wp X C.P Q' h)->slotA E' dg=some (.val (.bool b))/\(k' (setD ((dg,.val (.bool b))::E') o.dst (.val undef))).wp X C.P Q' h:=by
      intro hw;rw[hd]at hw ⊢;refine⟨.val undef,_,same,hw,fun E' k' Q' hl hp hk=>?_⟩;have he:E'.get dg=E.get dg:=hl dg (by rw[hlook];simp);exact⟨hb' E' he,hk _ (same' E' he)⟩
     cases b<;>cases want<;>simp only[cond_true,cond_false]at hw
     ·obtain⟨a,tail,h1,h2,h3⟩:=yes hw;refine⟨a,tail,h1,h2,fun E' k' Q' hl hp hk=>?_⟩;obtain⟨e1,e2⟩:=h3 E' k' Q' hl hp hk;rw[e1];exact e2
     ·obtain⟨a,tail,h1,h2,h3⟩:=no hw;refine⟨a,tail,h1,h2,fun E' k' Q' hl hp hk=>?_⟩;obtain⟨e1,e2⟩:=h3 E' k' Q' hl hp hk;rw[e1];exact e2
     ·obtain⟨a,tail,h1,h2,h3⟩:=no hw;refine⟨a,tail,h1,h2,fun E' k' Q' hl hp hk=>?_⟩;obtain⟨e1,e2⟩:=h3 E' k' Q' hl hp hk;rw[e1];exact e2
     ·obtain⟨a,tail,h1,h2,h3⟩:=yes hw;refine⟨a,tail,h1,h2,fun E' k' Q' hl hp hk=>?_⟩;obtain⟨e1,e2⟩:=h3 E' k' Q' hl hp hk;rw[e1];exact e2
def Prom(X:XP)(C:Ctx)(ro:List Nat)(ops:Array Oper)(E:Env)(p:PE)(h:LH):Prop :=
 ∀ (E':Env) (k':Env->T) Q',(∀ s∈looksL ops p.o,E'.get s=E.get s)->(∀ s,4096<=s->E'.get s=E.get s) ->
  (∀ tail':Env,(∀ s,tail'.get s=E'.get s)->(k' ((p.d,p.a)::tail')).wp X C.P Q' h)->(guardT C false ro false ops p.o E' k').wp X C.P Q' h
theorem rechk_wp{ro:List Nat}{ops:Array Oper}{E:Env}{k:T}:∀ {l:List PE},(∀ p∈l,p.o.dst=some p.d)->(rechk C ro ops E k l).wp X C.P Q h->(∀ p∈l,Prom X C ro ops E p h)/\k.wp X C.P Q h:=by
 intro l
 induction l with
 | nil=>intro _ hw;exact⟨fun p hp=>(by cases hp),hw⟩
 | cons p l ih =>
  intro hd hw;rw[rechk]at hw;cases hf:isFloat C E p.o with
  | false=>rw[hf]at hw;exact hw.elim
  | true =>
   rw[hf]at hw;obtain⟨a,tail,_,h1,re⟩:=guard_re hf (hd p (by simp)) hw;obtain⟨_,hn,h2⟩:=headT_wp h1;have hn':a=p.a:=hn;subst hn';obtain⟨h3,h4⟩:=ih (fun q hq=>hd q (by simp[hq])) h2;refine⟨?_,h4⟩;intro q hq;rcases List.mem_cons.1 hq with rfl|hq
   ·exact re
   ·exact h3 q hq
theorem bothL_wp{P:Program}{f:Nat->T}:∀ {l:List Nat},(bothL (mapT f l)).wp X P Q h->∀ i∈l,(f i).wp X P Q h:=by
 intro l
 induction l with
 | nil=>intro _ i hi;cases hi
 | cons a l ih =>
  intro hw i hi;cases l with
  | nil =>
   rcases List.mem_cons.1 hi with rfl|hi
   ·exact hw
   ·cases hi
  | cons b l =>
   obtain⟨h1,h2⟩:=hw;rcases List.mem_cons.1 hi with rfl|hi
   ·exact h1
   ·exact ih h2 i hi
end
end
end Go.TM
