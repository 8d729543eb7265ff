/- Contracts and laws for the proof, joined by a program. No condition. -/
import Derived.Test.YtjlalnifmgppdaaGreatDoorM2
set_option linter.all false
noncomputable section
open Go Go.Conc Go.TM Go.Proofs
open Go.IntKind (wrap)
namespace Go.TM
section
def getW(W:World):Cells:=fun r=>match W.heap[r]? with
 | some (.pending _ _)=>none
 | some o=>some (false,o)
 | none=>none
theorem getW_inv{W:World}{r:Nat}{m:Bool}{o:Obj}(h:getW W r=some (m,o)):m=false/\W.heap[r]?=some o/\∀ c e,o≠.pending c e:=by
 unfold getW at h;split at h
 ·cases h
 ·rename_i o' hn he;cases h;exact⟨rfl,he,fun c e hp=>hn c e hp⟩
 ·cases h
theorem getW_fits(W:World):Fits (getW W) W:=by
 intro r m o h;obtain⟨_,h1,h2⟩:=getW_inv h;refine⟨o,h1,?_⟩;cases o with
 | pending c e=>exact absurd rfl (h2 c e)
 | _=>exact rfl
theorem getW_no(W:World):∀ r x,getW W r=some x->x.1=false:=by
 rintro r ⟨m,o⟩ h;exact(getW_inv h).1
theorem getW_whole(W:World):∀ r b o,getW W r=some (b,o)->∀ i,¬ isHole o i:=by
 intro r b o h i;have h2:=(getW_inv h).2.2;cases o with
 | pending c e=>exact absurd rfl (h2 c e)
 | _=>exact id
theorem getW_of{W:World}{r:Nat}{c:Array Value}{e:TypeId}{f:Nat×Nat}(h:W.heap[r]?=some (.cells c e f)):getW W r=some (false,.cells c e f):=by
 unfold getW;rw[h]
theorem getW_cell{W:World}{a:Addr}{v:Value}(h:W.cell? a=some v):(getW W).cell? a=some v:=by
 unfold World.cell? at h;split at h
 ·rename_i c t f he;unfold Cells.cell?;rw[getW_of he];exact h
 ·cases h
theorem mapM_at{α:Type}{f:Nat->Option α}:∀ {l:List Nat} {r:List α},l.mapM f=some r->r.length=l.length/\∀ (i:Nat) y,r[i]?=some y->∃ j,l[i]?=some j/\f j=some y:=by
 intro l
 induction l with
 | nil=>intro r h;simp at h;subst h;exact⟨rfl,fun i y hy=>by simp at hy⟩
 | cons a asq ih =>
  intro r h;rw[List.mapM_cons]at h;cases ha:f a with
  | none=>simp[ha]at h
  | some b =>
   cases has:asq.mapM f with
   | none=>simp[ha,has]at h
   | some bs =>
    simp[ha,has]at h;subst h;obtain⟨h1,h2⟩:=ih has;refine⟨by simp[h1],fun i y hy=>?_⟩;cases i with
    | zero=>simp at hy;subst hy;exact⟨a,rfl,ha⟩
    | succ i=>obtain⟨j,hj⟩:=h2 i y (by simpa using hy);exact⟨j,by simpa using hj.1,hj.2⟩
theorem cells_at{W:World}{base n:Nat}{a:Addr}{cs:List Value}(h:W.cells? base a n=some cs):cs.length=n/\∀ (i:Nat) v,cs[i]?=some v->(getW W).cell? (a.add i)=some v:=by
 unfold World.cells? at h;split at h
 ·obtain⟨h1,h2⟩:=mapM_at h;refine⟨by simpa using h1,fun i v hv=>?_⟩;obtain⟨j,hj,hc⟩:=h2 i v hv;have:j=i:=by
   have:=List.getElem?_eq_some_iff.1 hj;obtain⟨_,e⟩:=this;simpa using e.symm
  rw[this]at hc;exact getW_cell hc
 ·cases h
section
variable {H:Type} {enc:TypeId×Value->H} {P:Program} {W:World} {base:Nat} {sp:Nat->Bool} {held:Bool} {fuel:Nat} {t:TypeId} {cs:List Value} {x:DataW H×List MemPlace}
def Light(P:Program)(t:TypeId)(d:DataW H):Prop:=∀ n∈d.weights P t,n<=reachBytes
theorem weightsAll_mem{e:TypeId}:∀ {l:List (DataW H)} {d:DataW H},d∈l->∀ n∈d.weights P e,n∈DataW.weightsAll P e l
 | d0::l,d,hd,n,hn=>by
  simp only[DataW.weightsAll,List.mem_append];rcases List.mem_cons.1 hd with rfl|hd
  ·exact .inl hn
  ·exact .inr (weightsAll_mem hd n hn)
def FieldsAre(P:Program)(t:TypeId)(l:List (TypeId×Nat)):Prop:=∃ fs,P.underlying t=some (.struct fs)/\fs.toList.map (fun f=>(f.type,f.offset))=l
theorem field_of{l:List (TypeId×Nat)}(hf:FieldsAre P t l)(hz:Light P t x.1)(h:DataW.trod enc P W base sp held fuel t cs=some x) :
  cs.length=P.cellsOf t/\∃ n:Nat,∀ (i:Nat) (ti:TypeId) (oi:Nat),l[i]?=some (ti,oi)->∃ y,DataW.trod enc P W base sp held n ti ((cs.drop oi).take (P.cellsOf ti))=some y/\Light P ti y.1:=by
 obtain⟨fs,hu,rfl⟩:=hf;obtain⟨xs,n,_,rfl,hl,hx,hall⟩:=DataW.trod_struct hu h;refine⟨hl,n,fun i ti oi hi=>?_⟩;rw[List.getElem?_map]at hi;cases hfi:fs.toList[i]? with
 | none=>simp[hfi]at hi
 | some f =>
  simp[hfi]at hi;obtain⟨rfl,rfl⟩:=hi;have hfi':fs[i]?=some f:=by simpa using hfi
  have hlt:i<xs.length:=by rw[hx];exact(Array.getElem?_eq_some_iff.1 hfi').1
  refine⟨xs[i],by rw[hall i f hfi',List.getElem?_eq_getElem hlt],fun k hk=>hz k ?_⟩;unfold DataW.weights;rw[hu];exact DataW.weights_mem_each (j:=i) (t:=f.type) (d:=xs[i].1) (by simp[hfi]) (by simp[List.getElem?_eq_getElem hlt]) k hk
theorem sl_of_trod{α:Type}{E:Cells->Addr->α->Prop}{e:TypeId}{k:Nat}(ht:P.underlying t=some (.slice e))(hk:P.cellsOf e=k)(hbt:0<P.bytesOf e)(hz:Light P t x.1)
 (hE:∀ (n:Nat) (a:Addr) cs y,cs.length=k->(∀ (i:Nat) v,cs[i]?=some v->(getW W).cell? (a.add i)=some v)->DataW.trod enc P W base sp held n e cs=some y->Light P e y.1->∃ z,E (getW W) a z)
 (h:DataW.trod enc P W base sp held fuel t cs=some x):∃ p n c l,cs=[.slice p n c]/\Sl E k (getW W) p n l:=by
 rcases DataW.trod_slice ht h with⟨rfl,_⟩|⟨a,len,cap,elems,rest,n,_,rfl,rfl,_,hl,hm,hlen,hel,_⟩
 ·exact⟨none,0,0,[],rfl,Sl.nil⟩
 ·have hbig:len<4611686018427387904:=by
   have:=hz ((elems.length+rest.length)*P.bytesOf e) (by simp[DataW.weights,ht]);have h2:elems.length<=(elems.length+rest.length)*P.bytesOf e:=Nat.le_trans (Nat.le_add_right _ _) (Nat.le_mul_of_pos_right _ hbt);simp only[reachBytes]at this;omega
  have key:∀ i:Fin len,∃ z,E (getW W) (a.add (i.1*k)) z:=by
   rintro⟨i,hi⟩;have h1:=hel i hi;rw[List.getElem?_eq_getElem (by omega:i<elems.length)]at h1;obtain⟨cs',hc,hy⟩:=Option.bind_eq_some_iff.1 h1;obtain⟨c1,c2⟩:=cells_at hc;rw[hk]at c1 c2;refine hE _ _ _ _ c1 c2 hy fun k hk'=>hz k ?_;simp only[DataW.weights,ht,List.mem_cons,List.mem_append];exact .inr (.inl (weightsAll_mem (List.mem_map.2 ⟨_,List.getElem_mem _,rfl⟩) k hk'))
  have hch:=Classical.axiomOfChoice key;obtain⟨g,hg⟩:=hch;refine⟨some a,len,cap,List.ofFn g,rfl,by simp,?_,fun i z hz=>⟨a,rfl,?_⟩⟩
  ·simpa using hbig
  ·rw[List.getElem?_ofFn]at hz;split at hz
   ·rename_i hi;cases hz;exact hg ⟨i,hi⟩
   ·cases hz
structure UseTy(P:Program)(tI tIs tSpan tSpans tPaper tPapers tReq tReqs tFile:TypeId):Prop where
 int:P.underlying tI=some (.int .i64)
 int1:P.cellsOf tI=1
 bytes:0<P.bytesOf tI/\0<P.bytesOf tSpan/\0<P.bytesOf tPaper/\0<P.bytesOf tReq
 ints:P.underlying tIs=some (.slice tI)
 ints1:P.cellsOf tIs=1
 span:FieldsAre P tSpan [(tI,0),(tI,1)]
 span2:P.cellsOf tSpan=2
 spans:P.underlying tSpans=some (.slice tSpan)
 spans1:P.cellsOf tSpans=1
 paper:FieldsAre P tPaper [(tSpan,0),(tI,2),(tIs,3)]
 paper4:P.cellsOf tPaper=4
 papers:P.underlying tPapers=some (.slice tPaper)
 papers1:P.cellsOf tPapers=1
 req:FieldsAre P tReq [(tI,0),(tI,1),(tIs,2)]
 req3:P.cellsOf tReq=3
 reqs:P.underlying tReqs=some (.slice tReq)
 reqs1:P.cellsOf tReqs=1
 file:FieldsAre P tFile [(tI,0),(tI,1),(tI,2),(tI,3),(tSpans,4),(tPapers,5),(tReqs,6)]
 file7:P.cellsOf tFile=7
variable {tI tIs tSpan tSpans tPaper tPapers tReq tReqs tFile:TypeId}
theorem ints_of_trod(T:UseTy P tI tIs tSpan tSpans tPaper tPapers tReq tReqs tFile)(hz:Light P tIs x.1)(h:DataW.trod enc P W base sp held fuel tIs cs=some x) :
  ∃ p n c l,cs=[.slice p n c]/\Sl IntE 1 (getW W) p n l:=by
 refine sl_of_trod T.ints T.int1 T.bytes.1 hz ?_ h;intro n a cs y _ hc hy _;obtain⟨z,rfl,_,_⟩:=DataW.trod_int T.int hy;exact⟨z,hc 0 _ rfl⟩
theorem span_cells(T:UseTy P tI tIs tSpan tSpans tPaper tPapers tReq tReqs tFile)(hz:Light P tSpan x.1)(h:DataW.trod enc P W base sp held fuel tSpan cs=some x) :
  ∃ a b,cs=[.int .i64 a,.int .i64 b]:=by
 obtain⟨hl,n,hf⟩:=field_of T.span hz h;rw[T.span2]at hl
 match cs,hl with
 | [c0,c1],_ =>
  obtain⟨y,h0,zh0⟩:=hf 0 tI 0 rfl;obtain⟨y1,h1,zh1⟩:=hf 1 tI 1 rfl;rw[T.int1]at h0 h1;obtain⟨a,e0,_,_⟩:=DataW.trod_int T.int h0;obtain⟨b,e1,_,_⟩:=DataW.trod_int T.int h1;simp at e0 e1;exact⟨a,b,by rw[e0,e1]⟩
theorem spans_of_trod(T:UseTy P tI tIs tSpan tSpans tPaper tPapers tReq tReqs tFile)(hz:Light P tSpans x.1)(h:DataW.trod enc P W base sp held fuel tSpans cs=some x) :
  ∃ p n c l,cs=[.slice p n c]/\Sl SpanE 2 (getW W) p n l:=by
 refine sl_of_trod T.spans T.span2 T.bytes.2.1 hz ?_ h;intro n a cs y _ hc hy hz;obtain⟨u,v,rfl⟩:=span_cells T hz hy;exact⟨⟨u,v⟩,hc 0 _ rfl,hc 1 _ rfl⟩
theorem papers_of_trod(T:UseTy P tI tIs tSpan tSpans tPaper tPapers tReq tReqs tFile)(hz:Light P tPapers x.1)(h:DataW.trod enc P W base sp held fuel tPapers cs=some x) :
  ∃ p n c l,cs=[.slice p n c]/\Sl PaperE 4 (getW W) p n l:=by
 refine sl_of_trod T.papers T.paper4 T.bytes.2.2.1 hz ?_ h;intro n a cs y hl hc hy hz;obtain⟨_,m,hf⟩:=field_of T.paper hz hy
 match cs,hl with
 | [c0,c1,c2,c3],_ =>
  obtain⟨y0,h0,zh0⟩:=hf 0 tSpan 0 rfl;obtain⟨y2,h2,zh2⟩:=hf 1 tI 2 rfl;obtain⟨y3,h3,zh3⟩:=hf 2 tIs 3 rfl;rw[T.span2]at h0;rw[T.int1]at h2;rw[T.ints1]at h3;obtain⟨u,v,e0⟩:=span_cells T zh0 h0;obtain⟨b,e2,_,_⟩:=DataW.trod_int T.int h2;obtain⟨p,k,c,l,e3,s⟩:=ints_of_trod T zh3 h3;simp at e0 e2 e3;obtain⟨rfl,rfl⟩:=e0;subst e2;subst e3;exact⟨⟨⟨u,v⟩,b,l⟩,hc 0 _ rfl,hc 1 _ rfl,hc 2 _ rfl,p,k,c,hc 3 _ rfl,s⟩
theorem reqs_of_trod(T:UseTy P tI tIs tSpan tSpans tPaper tPapers tReq tReqs tFile)(hz:Light P tReqs x.1)(h:DataW.trod enc P W base sp held fuel tReqs cs=some x) :
  ∃ p n c l,cs=[.slice p n c]/\Sl RequestE 3 (getW W) p n l:=by
 refine sl_of_trod T.reqs T.req3 T.bytes.2.2.2 hz ?_ h;intro n a cs y hl hc hy hz;obtain⟨_,m,hf⟩:=field_of T.req hz hy
 match cs,hl with
 | [c0,c1,c2],_ =>
  obtain⟨y0,h0,zh0⟩:=hf 0 tI 0 rfl;obtain⟨y2,h2,zh2⟩:=hf 1 tI 1 rfl;obtain⟨y3,h3,zh3⟩:=hf 2 tIs 2 rfl;rw[T.int1]at h0 h2;rw[T.ints1]at h3;obtain⟨d,e0,_,_⟩:=DataW.trod_int T.int h0;obtain⟨b,e2,_,_⟩:=DataW.trod_int T.int h2;obtain⟨p,k,c,l,e3,s⟩:=ints_of_trod T zh3 h3;simp at e0 e2 e3;subst e0;subst e2;subst e3;exact⟨⟨d,b,l⟩,hc 0 _ rfl,hc 1 _ rfl,p,k,c,hc 2 _ rfl,s⟩
theorem file_of_trod(T:UseTy P tI tIs tSpan tSpans tPaper tPapers tReq tReqs tFile)(hz:Light P tFile x.1)(h:DataW.trod enc P W base sp held fuel tFile cs=some x) :
  ∃ f u,cs=[.int .i64 u.items,.int .i64 u.lands,.int .i64 u.from_,.int .i64 u.idle,.slice f.p4 f.n4 f.c4,.slice f.p5 f.n5 f.c5,.slice f.p6 f.n6 f.c6]/\FileR (getW W) f u:=by
 obtain⟨hl,m,hf⟩:=field_of T.file hz h;rw[T.file7]at hl
 match cs,hl with
 | [c0,c1,c2,c3,c4,c5,c6],_ =>
  obtain⟨y0,h0,zh0⟩:=hf 0 tI 0 rfl;obtain⟨y1,h1,zh1⟩:=hf 1 tI 1 rfl;obtain⟨y2,h2,zh2⟩:=hf 2 tI 2 rfl;obtain⟨y3,h3,zh3⟩:=hf 3 tI 3 rfl;obtain⟨y4,h4,zh4⟩:=hf 4 tSpans 4 rfl;obtain⟨y5,h5,zh5⟩:=hf 5 tPapers 5 rfl;obtain⟨y6,h6,zh6⟩:=hf 6 tReqs 6 rfl;rw[T.int1]at h0 h1 h2 h3;rw[T.spans1]at h4;rw[T.papers1]at h5;rw[T.reqs1]at h6;obtain⟨a0,e0,_,_⟩:=DataW.trod_int T.int h0;obtain⟨a1,e1,_,_⟩:=DataW.trod_int T.int h1;obtain⟨a2,e2,_,_⟩:=DataW.trod_int T.int h2;obtain⟨a3,e3,_,_⟩:=DataW.trod_int T.int h3;obtain⟨p4,n4,k4,l4,e4,s4⟩:=spans_of_trod T zh4 h4;obtain⟨p5,n5,k5,l5,e5,s5⟩:=papers_of_trod T zh5 h5;obtain⟨p6,n6,k6,l6,e6,s6⟩:=reqs_of_trod T zh6 h6;simp at e0 e1 e2 e3 e4 e5 e6;subst e0;subst e1;subst e2;subst e3;subst e4;subst e5;subst e6;exact⟨⟨p4,n4,k4,p5,n5,k5,p6,n6,k6⟩,⟨a0,a1,a2,a3,l4,l5,l6⟩,rfl,s4,s5,s6⟩
theorem file_arg(T:UseTy P tI tIs tSpan tSpans tPaper tPapers tReq tReqs tFile){r:Reach}{b0:Nat}{v:Value}{d:DataW H}{ps:List MemPlace}
 (hv:Value.okWide P W r b0 tFile v)(hz:Light P tFile d)(h:DataW.Trod enc P W base sp held tFile v d ps):∃ f u,v=fileV f u/\FileR (getW W) f u:=by
 obtain⟨fs,hu,_⟩:=T.file;obtain⟨cs,rfl,_⟩:=WideShapes.okWide_struct hu hv;obtain⟨fuel,hf⟩:=h;obtain⟨f,u,e,hr⟩:=file_of_trod T hz hf;refine⟨f,u,?_,hr⟩;have e':cs.toList=_:=e;unfold fileV;congr 1;apply Array.ext';exact e'
theorem paper_cells(T:UseTy P tI tIs tSpan tSpans tPaper tPapers tReq tReqs tFile)(hz:Light P tPaper x.1)(h:DataW.trod enc P W base sp held fuel tPaper cs=some x) :
  ∃ (q:Option Addr) (m c:Nat) (y:Paper),cs=[.int .i64 y.days.first,.int .i64 y.days.last,.int .i64 y.land,.slice q m c]/\Sl IntE 1 (getW W) q m y.items:=by
 obtain⟨hl,m,hf⟩:=field_of T.paper hz h;rw[T.paper4]at hl
 match cs,hl with
 | [c0,c1,c2,c3],_ =>
  obtain⟨y0,h0,zh0⟩:=hf 0 tSpan 0 rfl;obtain⟨y2,h2,zh2⟩:=hf 1 tI 2 rfl;obtain⟨y3,h3,zh3⟩:=hf 2 tIs 3 rfl;rw[T.span2]at h0;rw[T.int1]at h2;rw[T.ints1]at h3;obtain⟨u,v,e0⟩:=span_cells T zh0 h0;obtain⟨b,e2,_,_⟩:=DataW.trod_int T.int h2;obtain⟨p,k,c,l,e3,s⟩:=ints_of_trod T zh3 h3;simp at e0 e2 e3;obtain⟨rfl,rfl⟩:=e0;subst e2;subst e3;exact⟨p,k,c,⟨⟨u,v⟩,b,l⟩,rfl,s⟩
theorem req_cells(T:UseTy P tI tIs tSpan tSpans tPaper tPapers tReq tReqs tFile)(hz:Light P tReq x.1)(h:DataW.trod enc P W base sp held fuel tReq cs=some x) :
  ∃ (q:Option Addr) (m c:Nat) (y:Request),cs=[.int .i64 y.day,.int .i64 y.land,.slice q m c]/\Sl IntE 1 (getW W) q m y.items:=by
 obtain⟨hl,m,hf⟩:=field_of T.req hz h;rw[T.req3]at hl
 match cs,hl with
 | [c0,c1,c2],_ =>
  obtain⟨y0,h0,zh0⟩:=hf 0 tI 0 rfl;obtain⟨y2,h2,zh2⟩:=hf 1 tI 1 rfl;obtain⟨y3,h3,zh3⟩:=hf 2 tIs 2 rfl;rw[T.int1]at h0 h2;rw[T.ints1]at h3;obtain⟨d,e0,_,_⟩:=DataW.trod_int T.int h0;obtain⟨b,e2,_,_⟩:=DataW.trod_int T.int h2;obtain⟨p,k,c,l,e3,s⟩:=ints_of_trod T zh3 h3;simp at e0 e2 e3;subst e0;subst e2;subst e3;exact⟨p,k,c,⟨d,b,l⟩,rfl,s⟩
theorem agg_of{cs:Array Value}{l:List Value}(h:(Value.agg cs).cells.toList=l):Value.agg cs=.agg l.toArray:=by
 have e:cs.toList=l:=h;rw[<- e]
theorem paper_arg(T:UseTy P tI tIs tSpan tSpans tPaper tPapers tReq tReqs tFile){r:Reach}{b0:Nat}{v:Value}{d:DataW H}{ps:List MemPlace}
 (hv:Value.okWide P W r b0 tPaper v)(hz:Light P tPaper d)(h:DataW.Trod enc P W base sp held tPaper v d ps):∃ q m c y,v=paperV y q m c/\Sl IntE 1 (getW W) q m y.items:=by
 obtain⟨fs,hu,_⟩:=T.paper;obtain⟨cs,rfl,_⟩:=WideShapes.okWide_struct hu hv;obtain⟨fuel,hf⟩:=h;obtain⟨q,m,c,y,e,hs⟩:=paper_cells T hz hf;exact⟨q,m,c,y,agg_of e,hs⟩
def reqV(y:Request)(q:Option Addr)(m c:Nat):Value:=.agg #[.int .i64 y.day,.int .i64 y.land,.slice q m c]
theorem req_arg(T:UseTy P tI tIs tSpan tSpans tPaper tPapers tReq tReqs tFile){r:Reach}{b0:Nat}{v:Value}{d:DataW H}{ps:List MemPlace}
 (hv:Value.okWide P W r b0 tReq v)(hz:Light P tReq d)(h:DataW.Trod enc P W base sp held tReq v d ps):∃ q m c y,v=reqV y q m c/\Sl IntE 1 (getW W) q m y.items:=by
 obtain⟨fs,hu,_⟩:=T.req;obtain⟨cs,rfl,_⟩:=WideShapes.okWide_struct hu hv;obtain⟨fuel,hf⟩:=h;obtain⟨q,m,c,y,e,hs⟩:=req_cells T hz hf;exact⟨q,m,c,y,agg_of e,hs⟩
end
theorem KeptW.below{w0 w:World}(k:KeptW w0.heap.size w0 w):Go.RowKit.Below w0.heap.size w0 w:=⟨k.os,k.tape,k.output,k.size,k.base⟩
end
section
open Go.ChangeShapes Go.RowKit
theorem trodAll_below{H:Type}{enc:TypeId×Value->H}{P:Program}(hl:laidOutB P=true){W W':World}(hb:Below W.heap.size W W'):∀ {ts:List TypeId} {vs:List Value} {ds:List (DataW H)} {ps:List MemPlace},
  (∀ t∈ts,P.readableRec t=true/\t<P.types.size)->DataW.TrodAll enc P W 0 (fun _=>true) true ts vs ds ps->(∀ x∈ps,x.block<W.heap.size) ->
  DataW.TrodAll enc P W' 0 (fun b=>decide (b<W.heap.size)) true ts vs ds ps
 | [],[],[],_,_,h,_=>h
 | t::ts,v::vs,d::ds,_,hr,h,hlt=>by
  obtain⟨p,q,h1,h2,rfl⟩:=h;exact⟨p,q,Below.trod hl (hr t (by simp)).1 (hr t (by simp)).2 h1 hb (fun x hx=>hlt x (by simp[hx])),trodAll_below hl hb (fun t' ht=>hr t' (by simp[ht])) h2 (fun x hx=>hlt x (by simp[hx])),rfl⟩
 | [],[],_::_,_,_,h,_=>h.elim
 | [],_::_,_,_,_,h,_=>by cases h
 | _::_,[],_,_,_,h,_=>by cases h
 | _::_,_::_,[],_,_,h,_=>h.elim
section
variable {H:Type} {enc:TypeId×Value->H}
end
theorem card_goes{p:Pinned}{s:OpenSpec}{c:OpenClaim}(kinds:List LaidKind)(tests:Bool)(har:Bool×String)(lk:Bool)
 (hc:c.holds p s)(hw:c.wfByText s=true)(htie:c.laidByTextAt .later p kinds tests)
 (hst:c.start=.entering)(hnb:c.noBlocks=false/\c.again=false)(hm:p.checked.prog.mainIs=some (har.1,har.2.toList))(hn:(!har.1&&har.2.isEmpty&&!lk)=false)
 (hl:∀ f fn,p.checked.prog.funcNamed c.func=some f->p.checked.prog.funcs[f]?=some fn->lk=p.checked.prog.looks []/\∀ (j:Nat) t,fn.params[j]?=some t->p.checked.prog.wantsStandIn t=false)
 (hg:true=c.goesBy p.checked.prog) :
  Claim7.holds p (.plain s) { stood:={ row:=c,standIns:=[],harness:=har,looks:=lk },kinds:=[],alts:=[],goes:=true,laidByText:=true,laidKinds:=kinds,laidTests:=tests,laidLooks:=.later }:=by
 have h6:∀ r:OpenClaim,Claim7.isSixth { stood:={ row:=r,standIns:=[],harness:=har,looks:=lk },kinds:=[] }=false:=fun r=>by simpa[Claim7.isSixth] using hn
 refine⟨?_,(fun D hD=>by cases hD),htie,(fun h=>by cases h),hg⟩;exact Claim7.tied_new_at .later kinds tests (Claim7.new_of_sixth hc har lk hst hnb hm (h6 c) hl) hw
end
section
variable {P:Program} {E:Halt->Cells->Prop} {h:Cells}
theorem lwp_newRow{Q:Addr->Cells->Prop}{el:TypeId}{cells:Array Value}(hq:∀ r,h r=none->Q ⟨r,0,none⟩ (h.upd r (true,.cells cells el (0,0)))):Sem.lwp P (newRow el cells) Q E h:=fun r hr=>hq r hr
theorem lwp_buildSlice{Q:Value->Cells->Prop}{t el:TypeId}{n:Nat}{parts:Array (Nat×Value)}{inf:TypeInfo}{z:Value}{cells:Array Value}(hu:P.underlying t=some (.slice el))(hi:P.info? el=some inf)(hz:inf.zero=some z)(hn:n*inf.size<=2^24)(hpos:n*inf.size≠0)
 (hf:Instr.fill (fun i=>some (i*inf.size,inf.size)) ((Array.range (n*inf.size)).map (z.cells[·%z.cells.size]!)) parts.toList=some cells)(hq:∀ r,h r=none->Q (.slice (some ⟨r,0,none⟩) n n) (h.upd r (true,.cells cells el (0,0)))):Sem.lwp P (Instr.buildSlice t n parts) Q E h:=by
 unfold Instr.buildSlice;rw[lwp_bind,lwp_underlying hu];simp only[];simp only[lwp_bind,lwp_sizeOf hi,if_neg (Nat.not_lt.2 hn),lwp_pure,if_neg hpos,lwp_zeroValue hi hz,hf];exact lwp_newRow hq
def OwnRow(el:TypeId)(k:Nat)(h:Cells)(p:Option Addr)(n c:Nat)(vs:List Value):Prop :=
 vs.length=n*k/\((p=none/\n=0/\c=0)\/∃ (r:Nat) (cs:Array Value),p=some ⟨r,0,none⟩/\h r=some (true,.cells cs el (0,0))/\cs.size=c*k/\n<=c/\∀ (j:Nat) (v:Value),vs[j]?=some v->cs[j]?=some v)
theorem OwnRow.nil{el:TypeId}{k:Nat}:OwnRow el k h none 0 0 []:=⟨by simp,.inl ⟨rfl,rfl,rfl⟩⟩
def KeptBut(p:Option Addr)(h h':Cells):Prop:=∀ r x,h r=some x->(∀ a,p=some a->a.block≠r)->h' r=some x
theorem growBy_le(N:Nat):∀ (rounds c:Nat),c<=2*N+400->Builtin.growBy N rounds c<=2*N+400:=by
 intro rounds
 induction rounds with
 | zero=>intro c hc;exact hc
 | succ k ih =>
  intro c hc;unfold Builtin.growBy;split
  ·exact hc
  ·exact ih _ (by omega)
theorem nextslicecap_le{N c:Nat}(hc:c<N):Builtin.nextslicecap N c<=2*N+400:=by
 unfold Builtin.nextslicecap;split
 ·omega
 ·split
  ·omega
  ·exact growBy_le N 4 c (by omega)
theorem setMany_get{vs:List Value}{cs:Array Value}{o:Nat}(ho:o+vs.length<=cs.size)(i:Nat):(setMany cs o vs)[i]?=if o<=i/\i<o+vs.length then vs[i-o]? else cs[i]?:=get_setMany vs cs o ho i
theorem lwp_loads{Q:Array Value->Cells->Prop}{l:List Value}{a:Addr}{n:Nat}(hn:l.length=n)(hc:∀ (t:Nat) v,l[t]?=some v->h.cell? (a.add t)=some v)(hq:Q l.toArray h):Sem.lwp P (loadCells a n) Q E h:=by
 unfold loadCells;subst hn;refine lwp_loadCells l a 0 #[] h (fun t v ht=>by rw[Nat.zero_add];exact hc t v ht) ?_;rw[Array.empty_append];exact hq
theorem lwp_append{Q:Value->Cells->Prop}{ts:Array TypeId}{ty sT xT el xe:TypeId}{inf:TypeInfo}{z:Value}{p:Option Addr}{n c m mc:Nat}{b:Addr}{vs ws:List Value}(h0:ts[0]?=some sT)(h1:ts[1]?=some xT)(hu:P.underlying sT=some (.slice el))(hx:P.underlying xT=some (.slice xe))
 (hi:P.info? el=some inf)(hz:inf.zero=some z)(hsz:z.cells.size=inf.size)(hb:inf.bytes<=1024)(hnm:n+m<=2^30)(own:OwnRow el inf.size h p n c vs)(hl:ws.length=m*inf.size)(hc:∀ (j:Nat) v,ws[j]?=some v->h.cell? (b.add j)=some v)(one:∀ v∈ws,isOne v=true)(hm:0<m)
 (hq:∀ p' c' h',OwnRow el inf.size h' p' (n+m) c' (vs++ws)->KeptBut p h h'->(p'=p\/∃ r,p'=some ⟨r,0,none⟩/\h r=none)->Q (.slice p' (n+m) c') h'):Sem.lwp P (Builtin.append_ ts ty #[.slice p n c,.slice (some b) m mc]) Q E h:=by
 unfold Builtin.append_;rw[h0,h1];simp only[List.getElem?_toArray,List.getElem?_cons_zero,List.getElem?_cons_succ];simp only[lwp_bind,lwp_underlying hu,lwp_sizeOf hi,lwp_underlying hx,lwp_pure,Bool.false_eq_true,if_false,Bool.not_false,if_true,Builtin.lenOf];obtain⟨hvl,hown⟩:=own;by_cases hroom:n+m<=c
 ·simp only[if_pos hroom,lwp_bind,Builtin.firstCells];refine lwp_loads (l:=ws) hl hc ?_;rcases hown with⟨rfl,rfl,rfl⟩|⟨r,cs,rfl,hr,hcs,hnc,hv⟩
  ·omega
  ·simp only[];have hle:n*inf.size+ws.length<=cs.size:=by rw[hl,hcs,<- Nat.add_mul];exact Nat.mul_le_mul_right _ hroom
   have ha:Addr.add ⟨r,0,none⟩ (n*inf.size)=⟨r,n*inf.size,none⟩:=by unfold Addr.add;split<;>simp_all
   rw[ha];rw[lwp_bind];refine lwp_storeCells ws 0 h r (n*inf.size) cs el hr (by omega) one ?_;rw[lwp_pure];refine hq _ _ _ ⟨by simp[hvl,hl,Nat.add_mul],.inr ⟨r,_,rfl,Cells.upd_self _ _ _,?_,hroom,?_⟩⟩ ?_ (.inl rfl)
   ·rw[size_setMany];exact hcs
   ·intro j v hj;rw[setMany_get (by omega)];by_cases hlt:j<vs.length
    ·rw[if_neg (by omega)];rw[List.getElem?_append_left hlt]at hj;exact hv j v hj
    ·rw[List.getElem?_append_right (by omega)]at hj;have hj':j-vs.length<ws.length:=(List.getElem?_eq_some_iff.1 hj).1;rw[if_pos (by omega),<- hj];congr 1;omega
   ·intro r' x hx' hne;have:r'≠r:=fun e=>hne _ rfl e.symm;rw[Cells.upd_ne _ _ this];exact hx'
 ·have hnot:¬ ((((n+m:Nat):Int)>IntKind.i64.max)/\((false:Bool)=true\/inf.bytes=0)):=by
   rintro⟨h1,_⟩;have e:IntKind.i64.max=9223372036854775807:=rfl;rw[e]at h1;omega
  have hcap:=nextslicecap_le (Nat.lt_of_not_le hroom);have hbytes:¬ (Builtin.nextslicecap (n+m) c*inf.bytes>2^48):=by
   have:=Nat.mul_le_mul hcap hb;have h2:(2*(n+m)+400)*1024<=(2*2^30+400)*1024:=Nat.mul_le_mul_right _ (by omega);have:(2*2^30+400)*1024<=2^48:=by decide
   omega
  have hnot':¬ ((((n+m:Nat):Int)>IntKind.i64.max)/\(False\/inf.bytes=0)):=fun h=>hnot ⟨h.1,h.2.imp_left False.elim⟩;simp only[if_neg hroom,lwp_bind,lwp_typeInfo hi,if_neg hnot',if_neg hbytes,lwp_pure];have hch:∀ {K:Nat->Cells->Prop},(∀ a,n+m<=a->K a h)->Sem.lwp P (choose (Question.appendCap (n+m) c el)) K E h:=by
   intro K hK;show (if _ then _ else _);split
   ·rename_i hf;simp[Question.forced]at hf
   ·intro t;exact hK _ (Nat.le_add_right _ _)
  refine hch fun a ha=>?_;have hroom':∀ {K:Unit->Cells->Prop},K () h->Sem.lwp P (askRoom (a*inf.bytes)) K E h:=by
   intro K hK;unfold askRoom;split
   ·exact⟨rfl,hK⟩
   ·exact hK
  refine hroom' ?_;have hold:∀ {K:Array Value->Cells->Prop},(∀ old:Array Value,old.toList=vs->K old h)->Sem.lwp P (Builtin.firstCells inf.size n (Value.slice p n c)) K E h:=by
   intro K hK;rcases hown with⟨rfl,rfl,rfl⟩|⟨r,cs,rfl,hr,hcs,hnc,hv⟩
   ·have:vs=[]:=List.eq_nil_of_length_eq_zero (by rw[hvl];simp);simp only[Builtin.firstCells,lwp_pure];exact hK #[] (by rw[this])
   ·simp only[Builtin.firstCells];refine lwp_loads (l:=vs) hvl (fun j v hj=>?_) (hK _ rfl);have e:Addr.add ⟨r,0,none⟩ j=⟨r,j,none⟩:=by unfold Addr.add;split<;>simp_all
    rw[e];simp only[Cells.cell?,hr,Option.isSome_none,Bool.false_eq_true,if_false];exact hv j v hj
  refine hold fun old hold=>?_;simp only[Builtin.firstCells];refine lwp_loads (l:=ws) hl hc ?_;simp only[lwp_zeroValue hi hz];refine lwp_newRow fun r hr=>?_;have hzs:(Builtin.zeroCells z.cells (a-(n+m))).size=(a-(n+m))*inf.size:=by simp[Builtin.zeroCells,hsz]
  refine hq _ _ _ ⟨by simp[hvl,hl,Nat.add_mul],.inr ⟨r,_,rfl,Cells.upd_self _ _ _,?_,ha,?_⟩⟩ ?_ (.inr ⟨r,rfl,hr⟩)
  ·have e1:old.size=n*inf.size:=by rw[<- Array.length_toList,hold,hvl]
   have e2:(ws.toArray).size=m*inf.size:=by simp[hl]
   simp only[Array.size_append,e1,e2,hzs];rw[<- Nat.add_mul,<- Nat.add_mul];congr 1;omega
  ·intro j v hj;have hlen:j<(vs++ws).length:=(List.getElem?_eq_some_iff.1 hj).1;rw[<- Array.getElem?_toList,Array.toList_append,Array.toList_append,hold,List.getElem?_append_left (by simpa using hlen)];exact hj
  ·intro r' x hx' _;have:r'≠r:=by rintro rfl;rw[hr]at hx';cases hx'
   rw[Cells.upd_ne _ _ this];exact hx'
theorem info_of{t:TypeId}{s b:Nat}{z:Option Value}(h:(P.info? t).map (fun i=>(i.size,i.bytes,i.zero))=some (s,b,z)):∃ i,P.info? t=some i/\i.size=s/\i.bytes=b/\i.zero=z:=by
 cases hi:P.info? t with
 | none=>rw[hi]at h;cases h
 | some i=>rw[hi]at h;simp only[Option.map_some,Option.some.injEq,Prod.mk.injEq]at h;exact⟨i,rfl,h.1,h.2.1,h.2.2⟩
theorem lwp_buildS{Q:Value->Cells->Prop}{t el:TypeId}{n s b:Nat}{parts:Array (Nat×Value)}{z:Value}{cells:Array Value}(hu:P.underlying t=some (.slice el))(hi:(P.info? el).map (fun i=>(i.size,i.bytes,i.zero))=some (s,b,some z))(hn:n*s<=2^24)(hpos:n*s≠0)
 (hf:Instr.fill (fun i=>some (i*s,s)) ((Array.range (n*s)).map (z.cells[·%z.cells.size]!)) parts.toList=some cells)(hq:∀ r,h r=none->Q (.slice (some ⟨r,0,none⟩) n n) (h.upd r (true,.cells cells el (0,0)))):Sem.lwp P (Instr.buildSlice t n parts) Q E h:=by
 obtain⟨i,h1,h2,_,h4⟩:=info_of hi;subst h2;exact lwp_buildSlice hu h1 h4 hn hpos hf hq
theorem lwp_appendS{Q:Value->Cells->Prop}{ts:Array TypeId}{ty sT xT el xe:TypeId}{s by_:Nat}{z:Value}{p:Option Addr}{n c m mc:Nat}{b:Addr}{vs ws:List Value}(h0:ts[0]?=some sT)(h1:ts[1]?=some xT)(hu:P.underlying sT=some (.slice el))(hx:P.underlying xT=some (.slice xe))
 (hi:(P.info? el).map (fun i=>(i.size,i.bytes,i.zero))=some (s,by_,some z))(hsz:z.cells.size=s)(hb:by_<=1024)(hnm:n+m<=2^30)(own:OwnRow el s h p n c vs)(hl:ws.length=m*s)(hc:∀ (j:Nat) v,ws[j]?=some v->h.cell? (b.add j)=some v)(one:∀ v∈ws,isOne v=true)(hm:0<m)
 (hq:∀ p' c' h',OwnRow el s h' p' (n+m) c' (vs++ws)->KeptBut p h h'->(p'=p\/∃ r,p'=some ⟨r,0,none⟩/\h r=none)->Q (.slice p' (n+m) c') h'):Sem.lwp P (Builtin.append_ ts ty #[.slice p n c,.slice (some b) m mc]) Q E h:=by
 obtain⟨i,g1,g2,g3,g4⟩:=info_of hi;subst g2;subst g3;exact lwp_append h0 h1 hu hx g1 g4 hsz hb hnm own hl hc one hm hq
theorem LH.upd_le{h:LH}{r:Nat}{x:Bool×Obj}(hr:h.get r=none):h.le { h with get:=h.get.upd r x }:=⟨Cells.le_upd x hr,rfl,rfl,rfl⟩
theorem cell_upd{r i:Nat}{m:Bool}{cs:Array Value}{el:TypeId}{f:Nat×Nat}{v:Value}(hv:cs[i]?=some v):(h.upd r (m,.cells cs el f)).cell? ⟨r,i,none⟩=some v:=by
 simp[Cells.cell?,Cells.upd_self,hv]
theorem add_plain(r o i:Nat):Addr.add ⟨r,o,none⟩ i=⟨r,o+i,none⟩:=by unfold Addr.add;split<;>simp_all
theorem t_build{X:XP}{Q:Leaf->LH->Prop}{h:LH}{k:Value->T}{t el:TypeId}{n s b:Nat}{parts:Array (Nat×Value)}{z:Value}{cells:Array Value}(hu:P.underlying t=some (.slice el))(hi:(P.info? el).map (fun i=>(i.size,i.bytes,i.zero))=some (s,b,some z))(hn:n*s<=2^24)(hpos:n*s≠0)
 (hf:Instr.fill (fun i=>some (i*s,s)) ((Array.range (n*s)).map (z.cells[·%z.cells.size]!)) parts.toList=some cells)
 (hk:∀ r,h.get r=none->(k (.slice (some ⟨r,0,none⟩) n n)).wp X P Q { h with get:=h.get.upd r (true,.cells cells el (0,0)) }):(T.sem false (Instr.buildSlice t n parts) k).wp X P Q h :=
 t_sem (A:=fun v h'=>∃ r,h.get r=none/\v=.slice (some ⟨r,0,none⟩) n n/\h'=h.get.upd r (true,.cells cells el (0,0))) (lwp_buildS hu hi hn hpos hf fun r hr=>⟨r,hr,rfl,rfl⟩) (by rintro v h' ⟨r,hr,rfl,rfl⟩;exact hk r hr)
theorem t_append{X:XP}{Q:Leaf->LH->Prop}{h:LH}{k:Value->T}{ts:Array TypeId}{ty sT xT el xe:TypeId}{s by_:Nat}{z:Value}{p:Option Addr}{n c m mc:Nat}{b:Addr}{vs ws:List Value}(h0:ts[0]?=some sT)(h1:ts[1]?=some xT)(hu:P.underlying sT=some (.slice el))(hx:P.underlying xT=some (.slice xe))
 (hi:(P.info? el).map (fun i=>(i.size,i.bytes,i.zero))=some (s,by_,some z))(hsz:z.cells.size=s)(hb:by_<=1024)(hnm:n+m<=2^30)(own:OwnRow el s h.get p n c vs)(hl:ws.length=m*s)(hc:∀ (j:Nat) v,ws[j]?=some v->h.get.cell? (b.add j)=some v)(one:∀ v∈ws,isOne v=true)(hm:0<m)
 (hk:∀ p' c' h',OwnRow el s h' p' (n+m) c' (vs++ws)->KeptBut p h.get h'->(p'=p\/∃ r,p'=some ⟨r,0,none⟩/\h.get r=none)->(k (.slice p' (n+m) c')).wp X P Q { h with get:=h' }):(T.sem false (Builtin.append_ ts ty #[.slice p n c,.slice (some b) m mc]) k).wp X P Q h :=
 t_sem (A:=fun v h'=>∃ p' c',v=.slice p' (n+m) c'/\OwnRow el s h' p' (n+m) c' (vs++ws)/\KeptBut p h.get h'/\(p'=p\/∃ r,p'=some ⟨r,0,none⟩/\h.get r=none)) (lwp_appendS h0 h1 hu hx hi hsz hb hnm own hl hc one hm fun p' c' h' a b c=>⟨p',c',rfl,a,b,c⟩)
  (by rintro v h' ⟨p',c',rfl,a,b,c⟩;exact hk p' c' h' a b c)
theorem lwp_index{Q:Value->Cells->Prop}{t el:TypeId}{d:TypeDesc}{len b:Nat}{z:Option Value}{cs:Array Value}{k:IntKind}{i:Nat}{v:Value}(hu:P.underlying t=some (.array len el))(hi:(P.info? el).map (fun i=>(i.size,i.bytes,i.zero))=some (1,b,z))(he:P.underlying el=some d)(ha:isAggT P el=false)
 (hlt:i<len)(hv:cs[i]?=some v)(hq:Q v h):Sem.lwp P (Instr.index t (.agg cs) (.int k i)) Q E h:=by
 obtain⟨j,g1,g2,_,_⟩:=info_of hi;unfold Instr.index;simp only[asIntOf,lwp_bind,lwp_pure,lwp_underlying hu];rw[if_pos (by omega)];simp only[lwp_bind,lwp_sizeOf g1,part,lwp_isAgg_false he ha,g2,Int.toNat_natCast,Nat.mul_one,Bool.false_eq_true,if_false,hv];exact hq
theorem t_index{X:XP}{Q:Leaf->LH->Prop}{h:LH}{K:Value->T}{t el:TypeId}{d:TypeDesc}{len b:Nat}{z:Option Value}{cs:Array Value}{k:IntKind}{i:Nat}{v:Value}(hu:P.underlying t=some (.array len el))(hi:(P.info? el).map (fun i=>(i.size,i.bytes,i.zero))=some (1,b,z))(he:P.underlying el=some d)(ha:isAggT P el=false)
 (hlt:i<len)(hv:cs[i]?=some v)(hk:(K v).wp X P Q h):(T.sem false (Instr.index t (.agg cs) (.int k i)) K).wp X P Q h :=
 t_sem (A:=fun w h'=>w=v/\h'=h.get) (lwp_index hu hi he ha hlt hv ⟨rfl,rfl⟩) (by rintro w h' ⟨rfl,rfl⟩;exact hk)
end
end Go.TM
namespace Go.Y
section
theorem inf31:(Tryz.prog.info? 45).map (fun i=>(i.size,i.bytes,i.zero))=some (1,8,some (.int .i64 0)):=by kernel_rfl
theorem inf3:(Tryz.prog.info? 3).map (fun i=>(i.size,i.bytes,i.zero))=some (1,8,some (.int .i64 0)):=by kernel_rfl
theorem inf34:(Tryz.prog.info? 61).map (fun i=>(i.size,i.bytes,i.zero))=some (1,8,some (.int .i64 0)):=by kernel_rfl
theorem inf79:(Tryz.prog.info? 80).map (fun i=>(i.size,i.bytes,i.zero))=some (4,32,some (.agg #[.int .i64 0,.int .i64 0,.int .i64 0,.int .i64 0])):=by kernel_rfl
theorem inf64:(Tryz.prog.info? 33).map (fun i=>(i.size,i.bytes,i.zero))=some (3,40,some (.agg #[.int .i64 0,.int .i64 0,.slice none 0 0])):=by kernel_rfl
theorem inf69:(Tryz.prog.info? 31).map (fun i=>(i.size,i.bytes,i.zero))=some (4,48,some (.agg #[.int .i64 0,.int .i64 0,.int .i64 0,.slice none 0 0])):=by kernel_rfl
theorem inf50:(Tryz.prog.info? 29).map (fun i=>(i.size,i.bytes,i.zero))=some (1,24,some (.slice none 0 0)):=by kernel_rfl
theorem inf87:(Tryz.prog.info? 109).map (fun i=>(i.size,i.bytes,i.zero))=some (1,8,some .nilFunc):=by kernel_rfl
theorem inf30:(Tryz.prog.info? 28).map (fun i=>(i.size,i.bytes,i.zero))=some (2,16,some (.agg #[.int .i64 0,.int .i64 0])):=by kernel_rfl
theorem inf4:(Tryz.prog.info? 4).map (fun i=>(i.size,i.bytes,i.zero))=some (1,1,some (.bool false)):=by kernel_rfl
theorem und134:Tryz.prog.underlying 131=some (.slice 45):=by kernel_rfl
theorem und50:Tryz.prog.underlying 29=some (.slice 3):=by kernel_rfl
theorem und40:Tryz.prog.underlying 66=some (.slice 61):=by kernel_rfl
theorem und45:Tryz.prog.underlying 69=some (.slice 80):=by kernel_rfl
theorem und24:Tryz.prog.underlying 24=some (.slice 33):=by kernel_rfl
theorem und23:Tryz.prog.underlying 23=some (.slice 31):=by kernel_rfl
theorem und22:Tryz.prog.underlying 22=some (.slice 28):=by kernel_rfl
theorem und104:Tryz.prog.underlying 114=some (.chan .both 29):=by kernel_rfl
theorem und110:Tryz.prog.underlying 150=some (.slice 109):=by kernel_rfl
theorem und98:Tryz.prog.underlying 187=some (.array 4 109):=by kernel_rfl
theorem und87:Tryz.prog.underlying 109=some (.func #[118] #[45] false):=by kernel_rfl
theorem agg87:isAggT Tryz.prog 109=false:=by kernel_rfl
theorem und111:Tryz.prog.underlying 151=some (.map 156 28):=by kernel_rfl
theorem und138:Tryz.prog.underlying 215=some (.map 3 4):=by kernel_rfl
end
section
set_option linter.unusedVariables false
set_option maxRecDepth 100000
variable {X:XP} {h:LH} {A:Value->LH->Prop}
def n35(ap:Option Addr)(an ac:Nat)(bp:Option Addr)(bn bc:Nat):T:=bif (↑an:Int) != (↑bn:Int) then .rt (.bool false) else .loop [false,.int .i64 0] (fun vs=>.popB vs fun b vs=>.pi vs fun n vs=>.unNil vs (bif decide (n<(↑an:Int)) then .need (0<=n/\n<(↑an:Int)) (.someA ap fun a=>.li (a.add (n.toNat*1)) fun n_1=>.need (0<=n/\n<(↑bn:Int)) (.someA bp fun a=>.li (a.add (n.toNat*1)) fun n_2=>bif n_1 != n_2 then .rn [false,n] else .ag [b,.int .i64 (wrap .i64 (n+1))])) else .bk [b,n])) (fun vs=>.popB vs fun b vs=>.pi vs fun n vs=>.unNil vs (.rt (.bool true))) (fun vs=>.popB vs fun b vs=>.pi vs fun n vs=>.unNil vs (.rt (.bool b))) fun x x_1=>.fail
theorem w35(ap:Option Addr)(an ac:Nat)(bp:Option Addr)(bn bc:Nat):FX X 25 #[.slice ap an ac,.slice bp bn bc] h A (n35 ap an ac bp bn bc):=fk [] [⟨0,[(4,.bool),(5,.int .i64)],[],[],[],[]⟩] [] Tryz.f25
def n49(n first last:Int):T:=bif decide (first<=n) then .rt (.bool (decide (n<=last))) else .rt (.bool false)
theorem w49(n first last:Int):FX X 35 #[n,first,last] h A (n49 n first last):=fk [] [] [] Tryz.f35
def n97(s1p:Option Addr)(s1n s1c:Nat)(s2p:Option Addr)(s2n s2c:Nat):T:=.loop [.int .i64 0,.int .i64 0] (fun vs=>.pi vs fun n vs=>.pi vs fun n_1 vs=>.unNil vs (bif decide (n_1<(↑s1n:Int)) then .need (0<=n_1/\n_1<(↑s1n:Int)) (.someA s1p fun a=>.li (a.add (n_1.toNat*1)) fun n_2=>bif decide (n_1>=(↑s2n:Int)) then .rn [.int .i64 1,n_1] else .need (0<=n_1/\n_1<(↑s2n:Int)) (.someA s2p fun a=>.li (a.add (n_1.toNat*1)) fun n_3=>.cI 118 #[n_2,n_3] fun n_4=>bif n_4 != 0 then .rn [n_4,n_1] else .ag [n,.int .i64 (wrap .i64 (n_1+1))])) else .bk [n,n_1])) (fun vs=>.pi vs fun n vs=>.pi vs fun n vs=>.unNil vs (bif decide ((↑s1n:Int)<(↑s2n:Int)) then .rt (.int .i64 (-1)) else .rt (.int .i64 0))) (fun vs=>.pi vs fun n vs=>.pi vs fun n_1 vs=>.unNil vs (.rt (.int .i64 n))) fun x x_1=>.fail
theorem w97(s1p:Option Addr)(s1n s1c:Nat)(s2p:Option Addr)(s2n s2c:Nat):FX X 85 #[.slice s1p s1n s1c,.slice s2p s2n s2c] h A (n97 s1p s1n s1c s2p s2n s2c):=fk [] [⟨0,[(4,.int .i64),(11,.int .i64)],[],[],[],[]⟩] [] Tryz.f85
def n100(sp:Option Addr)(sn sc:Nat)(v:Int):T:=.cI 109 #[.slice sp sn sc,v] fun n=>.rt (.bool (decide (n>=0)))
theorem w100(sp:Option Addr)(sn sc:Nat)(v:Int):FX X 63 #[.slice sp sn sc,v] h A (n100 sp sn sc v):=fk [] [] [] Tryz.f63
def n105(x y:Int):T:=.cB 142 #[x] fun b=>.cB 142 #[y] fun b_1=>bif b then bif b_1 then .rt (.int .i64 0) else .rt (.int .i64 (-1)) else bif b_1 then .rt (.int .i64 1) else bif decide (x<y) then .rt (.int .i64 (-1)) else bif decide (x>y) then .rt (.int .i64 1) else .rt (.int .i64 0)
theorem w105(x y:Int):FX X 118 #[x,y] h A (n105 x y):=fk [] [] [] Tryz.f118
def n106(sp:Option Addr)(sn sc:Nat)(v:Int):T:=.loop [.int .i64 0,.int .i64 0] (fun vs=>.pi vs fun n vs=>.pi vs fun n_1 vs=>.unNil vs (bif decide (n_1<(↑sn:Int)) then .need (0<=n_1/\n_1<(↑sn:Int)) (.someA sp fun a=>.li (a.add (n_1.toNat*1)) fun n_2=>bif v==n_2 then .rn [n_1,n_1] else .ag [n,.int .i64 (wrap .i64 (n_1+1))]) else .bk [n,n_1])) (fun vs=>.pi vs fun n vs=>.pi vs fun n vs=>.unNil vs (.rt (.int .i64 (-1)))) (fun vs=>.pi vs fun n vs=>.pi vs fun n_1 vs=>.unNil vs (.rt (.int .i64 n))) fun x x_1=>.fail
theorem w106(sp:Option Addr)(sn sc:Nat)(v:Int):FX X 109 #[.slice sp sn sc,v] h A (n106 sp sn sc v):=fk [] [⟨0,[(4,.int .i64),(8,.int .i64)],[],[],[],[]⟩] [] Tryz.f109
def n109(x:Int):T:=.rt (.bool (x != x))
theorem w109(x:Int):FX X 142 #[x] h A (n109 x):=fk [] [] [] Tryz.f142
end
section
set_option linter.unusedVariables false
set_option maxRecDepth 100000
variable {X:XP} {h:LH} {A:Value->LH->Prop}
def n17(u_0 u_1 u_2 u_3:Int)(u_4p:Option Addr)(u_4n u_4c:Nat)(u_5p:Option Addr)(u_5n u_5c:Nat)(u_6p:Option Addr)(u_6n u_6c:Nat)(day:Int):T:=.cl 45 #[day] fun v=>.nd (.agg #[u_0,u_1,u_2,u_3,.slice u_4p u_4n u_4c,.slice u_5p u_5n u_5c,.slice u_6p u_6n u_6c]) (.sem false (Instr.buildSlice 150 1 #[(0,v)]) fun v=>.unS v fun a n c=>.nd (.agg #[u_0,u_1,u_2,u_3,.slice u_4p u_4n u_4c,.slice u_5p u_5n u_5c,.slice u_6p u_6n u_6c]) (.cT 44 #[.agg #[u_0,u_1,u_2,u_3,.slice u_4p u_4n u_4c,.slice u_5p u_5n u_5c,.slice u_6p u_6n u_6c],.slice a n c] fun v vs=>.unP v fun a=>.unCons vs fun v vs=>.ui v fun n=>.unNil vs (.nd n (bif n != 0 then .rt (.tuple #[.agg #[.int .i64 0,.int .i64 0],n]) else .cl 46 #[.pointer a,day] fun v=>.unAgg v fun l=>.pi l fun n vs=>.pi vs fun n_1 vs=>.unNil vs (.rt (.tuple #[.agg #[n,n_1],.int .i64 0]))))))
theorem w17(u_0 u_1 u_2 u_3:Int)(u_4p:Option Addr)(u_4n u_4c:Nat)(u_5p:Option Addr)(u_5n u_5c:Nat)(u_6p:Option Addr)(u_6n u_6c:Nat)(day:Int):FX X 17 #[.agg #[u_0,u_1,u_2,u_3,.slice u_4p u_4n u_4c,.slice u_5p u_5n u_5c,.slice u_6p u_6n u_6c],day] h A (n17 u_0 u_1 u_2 u_3 u_4p u_4n u_4c u_5p u_5n u_5c u_6p u_6n u_6c day):=fk [2,4] [] [] Tryz.f17
def n19(u_0 u_1 u_2 u_3:Int)(u_4p:Option Addr)(u_4n u_4c:Nat)(u_5p:Option Addr)(u_5n u_5c:Nat)(u_6p:Option Addr)(u_6n u_6c:Nat)(land item day:Int):T:=.cl 47 #[land] fun v=>.nds [day,item,.val (.agg #[u_0,u_1,u_2,u_3,.slice u_4p u_4n u_4c,.slice u_5p u_5n u_5c,.slice u_6p u_6n u_6c])] (.cl 48 #[item] fun v_1=>.nds [day,.val (.agg #[u_0,u_1,u_2,u_3,.slice u_4p u_4n u_4c,.slice u_5p u_5n u_5c,.slice u_6p u_6n u_6c])] (.cl 45 #[day] fun v_2=>.nd (.agg #[u_0,u_1,u_2,u_3,.slice u_4p u_4n u_4c,.slice u_5p u_5n u_5c,.slice u_6p u_6n u_6c]) (.sem false (Instr.buildSlice 150 3 #[(0,v),(1,v_1),(2,v_2)]) fun v=>.unS v fun a n c=>.nd (.agg #[u_0,u_1,u_2,u_3,.slice u_4p u_4n u_4c,.slice u_5p u_5n u_5c,.slice u_6p u_6n u_6c]) (.cT 44 #[.agg #[u_0,u_1,u_2,u_3,.slice u_4p u_4n u_4c,.slice u_5p u_5n u_5c,.slice u_6p u_6n u_6c],.slice a n c] fun v vs=>.unP v fun a=>.unCons vs fun v vs=>.ui v fun n=>.unNil vs (.nd n (bif n != 0 then .rt (.tuple #[.int .i64 0,n]) else .cI 49 #[.pointer a,land,item,day] fun n=>.rt (.tuple #[n,.int .i64 0])))))))
theorem w19(u_0 u_1 u_2 u_3:Int)(u_4p:Option Addr)(u_4n u_4c:Nat)(u_5p:Option Addr)(u_5n u_5c:Nat)(u_6p:Option Addr)(u_6n u_6c:Nat)(land item day:Int):FX X 18 #[.agg #[u_0,u_1,u_2,u_3,.slice u_4p u_4n u_4c,.slice u_5p u_5n u_5c,.slice u_6p u_6n u_6c],land,item,day] h A (n19 u_0 u_1 u_2 u_3 u_4p u_4n u_4c u_5p u_5n u_5c u_6p u_6n u_6c land item day):=fk [4] [] [] Tryz.f18
def n21(u_0 u_1 u_2 u_3:Int)(u_4p:Option Addr)(u_4n u_4c:Nat)(u_5p:Option Addr)(u_5n u_5c:Nat)(u_6p:Option Addr)(u_6n u_6c:Nat)(land item:Int):T:=.cl 47 #[land] fun v=>.nds [item,.val (.agg #[u_0,u_1,u_2,u_3,.slice u_4p u_4n u_4c,.slice u_5p u_5n u_5c,.slice u_6p u_6n u_6c])] (.cl 48 #[item] fun v_1=>.nd (.agg #[u_0,u_1,u_2,u_3,.slice u_4p u_4n u_4c,.slice u_5p u_5n u_5c,.slice u_6p u_6n u_6c]) (.sem false (Instr.buildSlice 150 2 #[(0,v),(1,v_1)]) fun v=>.unS v fun a n c=>.nd (.agg #[u_0,u_1,u_2,u_3,.slice u_4p u_4n u_4c,.slice u_5p u_5n u_5c,.slice u_6p u_6n u_6c]) (.cT 44 #[.agg #[u_0,u_1,u_2,u_3,.slice u_4p u_4n u_4c,.slice u_5p u_5n u_5c,.slice u_6p u_6n u_6c],.slice a n c] fun v vs=>.unP v fun a=>.unCons vs fun v vs=>.ui v fun n=>.unNil vs (.nd n (bif n != 0 then .rt (.tuple #[.int .i64 0,n]) else .loop [.int .i64 0,.int .i64 0,u_2] (fun vs=>.pi vs fun n vs=>.pi vs fun n_1 vs=>.pi vs fun n_2 vs=>.unNil vs (bif decide (n_2<=2000) then .cI 49 #[.pointer a,land,item,n_2] fun n_3=>bif n_3 != 1 then .rn [n_2,.int .i64 0,n_2] else .ag [n,n_1,.int .i64 (wrap .i64 (n_2+1))] else .bk [n,n_1,n_2])) (fun vs=>.pi vs fun n vs=>.pi vs fun n vs=>.pi vs fun n vs=>.unNil vs (.rt (.tuple #[.int .i64 (-1),.int .i64 0]))) (fun vs=>.pi vs fun n vs=>.pi vs fun n_1 vs=>.pi vs fun n_2 vs=>.unNil vs (.rt (.tuple #[n,n_1]))) fun x x_1=>.fail)))))
theorem w21(u_0 u_1 u_2 u_3:Int)(u_4p:Option Addr)(u_4n u_4c:Nat)(u_5p:Option Addr)(u_5n u_5c:Nat)(u_6p:Option Addr)(u_6n u_6c:Nat)(land item:Int):FX X 19 #[.agg #[u_0,u_1,u_2,u_3,.slice u_4p u_4n u_4c,.slice u_5p u_5n u_5c,.slice u_6p u_6n u_6c],land,item] h A (n21 u_0 u_1 u_2 u_3 u_4p u_4n u_4c u_5p u_5n u_5c u_6p u_6n u_6c land item):=fk [3] [⟨0,[(6,.int .i64),(7,.int .i64),(10,.int .i64)],[3],[],[],[]⟩] [] Tryz.f19
def n23(u_0 u_1 u_2 u_3:Int)(u_4p:Option Addr)(u_4n u_4c:Nat)(u_5p:Option Addr)(u_5n u_5c:Nat)(u_6p:Option Addr)(u_6n u_6c:Nat)(land day:Int):T:=.cl 47 #[land] fun v=>.nds [day,.val (.agg #[u_0,u_1,u_2,u_3,.slice u_4p u_4n u_4c,.slice u_5p u_5n u_5c,.slice u_6p u_6n u_6c])] (.cl 45 #[day] fun v_1=>.nd (.agg #[u_0,u_1,u_2,u_3,.slice u_4p u_4n u_4c,.slice u_5p u_5n u_5c,.slice u_6p u_6n u_6c]) (.sem false (Instr.buildSlice 150 2 #[(0,v),(1,v_1)]) fun v=>.unS v fun a n c=>.nd (.agg #[u_0,u_1,u_2,u_3,.slice u_4p u_4n u_4c,.slice u_5p u_5n u_5c,.slice u_6p u_6n u_6c]) (.cT 44 #[.agg #[u_0,u_1,u_2,u_3,.slice u_4p u_4n u_4c,.slice u_5p u_5n u_5c,.slice u_6p u_6n u_6c],.slice a n c] fun v vs=>.unP v fun a=>.unCons vs fun v vs=>.ui v fun n=>.unNil vs (.nd n (bif n != 0 then .rt (.tuple #[.slice none 0 0,n]) else .cl 50 #[.pointer a,land,day] fun v=>.unS v fun a n c=>.rt (.tuple #[.slice a n c,.int .i64 0]))))))
theorem w23(u_0 u_1 u_2 u_3:Int)(u_4p:Option Addr)(u_4n u_4c:Nat)(u_5p:Option Addr)(u_5n u_5c:Nat)(u_6p:Option Addr)(u_6n u_6c:Nat)(land day:Int):FX X 20 #[.agg #[u_0,u_1,u_2,u_3,.slice u_4p u_4n u_4c,.slice u_5p u_5n u_5c,.slice u_6p u_6n u_6c],land,day] h A (n23 u_0 u_1 u_2 u_3 u_4p u_4n u_4c u_5p u_5n u_5c u_6p u_6n u_6c land day):=fk [3] [] [] Tryz.f20
def n26(u_0 u_1 u_2 u_3:Int)(u_4p:Option Addr)(u_4n u_4c:Nat)(u_5p:Option Addr)(u_5n u_5c:Nat)(u_6p:Option Addr)(u_6n u_6c:Nat):T:=.loadV (Addr.add { block:=0,off:=0 } 0) fun v=>.loadV (Addr.add { block:=0,off:=0 } 1) fun v_1=>.loadV (Addr.add { block:=0,off:=0 } 2) fun v_2=>.loadV (Addr.add { block:=0,off:=0 } 3) fun v_3=>.loop [.int .i64 0,.int .i64 0] (fun vs=>.pi vs fun n vs=>.pi vs fun n_1 vs=>.unNil vs (bif decide (n_1<4) then .sem false (Instr.index 187 (.agg #[v,v_1,v_2,v_3]) (.int .i64 n_1)) fun v=>.callv false v #[.agg #[u_0,u_1,u_2,u_3,.slice u_4p u_4n u_4c,.slice u_5p u_5n u_5c,.slice u_6p u_6n u_6c]] fun v=>.ui v fun n_2=>bif n_2 != 0 then .rn [n_2,n_1] else .ag [n,.int .i64 (wrap .i64 (n_1+1))] else .bk [n,n_1])) (fun vs=>.pi vs fun n vs=>.pi vs fun n vs=>.unNil vs (.rt (.int .i64 0))) (fun vs=>.pi vs fun n vs=>.pi vs fun n_1 vs=>.unNil vs (.rt (.int .i64 n))) fun x x_1=>.fail
theorem w26(u_0 u_1 u_2 u_3:Int)(u_4p:Option Addr)(u_4n u_4c:Nat)(u_5p:Option Addr)(u_5n u_5c:Nat)(u_6p:Option Addr)(u_6n u_6c:Nat):FX X 74 #[.agg #[u_0,u_1,u_2,u_3,.slice u_4p u_4n u_4c,.slice u_5p u_5n u_5c,.slice u_6p u_6n u_6c]] h A (n26 u_0 u_1 u_2 u_3 u_4p u_4n u_4c u_5p u_5n u_5c u_6p u_6n u_6c):=fk [1] [⟨0,[(2,.int .i64),(7,.int .i64)],[1],[],[],[]⟩] [] Tryz.f74
def n28(u_0 u_1 u_2 u_3:Int)(u_4p:Option Addr)(u_4n u_4c:Nat)(u_5p:Option Addr)(u_5n u_5c:Nat)(u_6p:Option Addr)(u_6n u_6c:Nat)(land day:Int):T:=.cl 47 #[land] fun v=>.nds [day,.val (.agg #[u_0,u_1,u_2,u_3,.slice u_4p u_4n u_4c,.slice u_5p u_5n u_5c,.slice u_6p u_6n u_6c])] (.cl 45 #[day] fun v_1=>.nd (.agg #[u_0,u_1,u_2,u_3,.slice u_4p u_4n u_4c,.slice u_5p u_5n u_5c,.slice u_6p u_6n u_6c]) (.sem false (Instr.buildSlice 150 2 #[(0,v),(1,v_1)]) fun v=>.unS v fun a n c=>.nd (.agg #[u_0,u_1,u_2,u_3,.slice u_4p u_4n u_4c,.slice u_5p u_5n u_5c,.slice u_6p u_6n u_6c]) (.cT 44 #[.agg #[u_0,u_1,u_2,u_3,.slice u_4p u_4n u_4c,.slice u_5p u_5n u_5c,.slice u_6p u_6n u_6c],.slice a n c] fun v vs=>.unP v fun a=>.unCons vs fun v vs=>.ui v fun n=>.unNil vs (.nd n (bif n != 0 then .rt (.tuple #[.slice none 0 0,n]) else .loop [.slice none 0 0,.int .i64 0] (fun vs=>.popS vs fun a_1 n c vs=>.pi vs fun n_1 vs=>.unNil vs (bif decide (n_1<(↑u_6n:Int)) then .need (0<=n_1/\n_1<(↑u_6n:Int)) (.someA u_6p fun a_2=>.li ((a_2.add (n_1.toNat*3)).add 0) fun n_2=>.li ((a_2.add (n_1.toNat*3)).add 1) fun n_3=>.loadS ((a_2.add (n_1.toNat*3)).add 2) fun p n_4 c_1=>.blk (bif n_3 != land then .leaf (.out 1 []) else bif decide (n_2>day) then .leaf (.out 1 []) else .ag []) (fun vs=>.unNil vs (.loop [.slice a_1 n c,.int .i64 0] (fun vs=>.popS vs fun a_3 n c vs=>.pi vs fun n_5 vs=>.unNil vs (bif decide (n_5<(↑n_4:Int)) then .need (0<=n_5/\n_5<(↑n_4:Int)) (.someA p fun a_4=>.li (a_4.add (n_5.toNat*1)) fun n_6=>.cI 49 #[.pointer a,land,n_6,n_2] fun n_7=>bif n_7 != 1 then .cl 46 #[.pointer a,n_2] fun v=>.unAgg v fun l=>.pi l fun n_8 vs=>.pi vs fun n_9 vs=>.unNil vs (.sem false (Instr.buildSlice 69 1 #[(0,.agg #[n_6,n_1,n_8,n_9])]) fun v=>.unS v fun a n_10 c_2=>.sem false (Builtin.append_ #[69,69] 69 #[.slice a_3 n c,.slice a n_10 c_2]) fun v=>.unS v fun a n c=>.ag [.slice a n c,.int .i64 (wrap .i64 (n_5+1))]) else .ag [.slice a_3 n c,.int .i64 (wrap .i64 (n_5+1))]) else .bk [.slice a_3 n c,n_5])) (fun vs=>.popS vs fun a n c vs=>.pi vs fun n_5 vs=>.unNil vs (.ag [.slice a n c,.int .i64 (wrap .i64 (n_1+1))])) (fun vs=>.popS vs fun a n c vs=>.pi vs fun n_5 vs=>.unNil vs (.rn [.slice a n c,n_1])) fun x x_1=>.fail)) (fun vs=>.unNil vs (.rn [.slice a_1 n c,n_1])) fun x x_1=>bif Nat.beq x 1 then .unNil x_1 (.ag [.slice a_1 n c,.int .i64 (wrap .i64 (n_1+1))]) else .fail) else .bk [.slice a_1 n c,n_1])) (fun vs=>.popS vs fun a n c vs=>.pi vs fun n_1 vs=>.unNil vs (.rt (.tuple #[.slice a n c,.int .i64 0]))) (fun vs=>.popS vs fun a n c vs=>.pi vs fun n vs=>.unNil vs (.rt (.tuple #[.slice none 0 0,.int .i64 0]))) fun x x_1=>.fail)))))
theorem w28(u_0 u_1 u_2 u_3:Int)(u_4p:Option Addr)(u_4n u_4c:Nat)(u_5p:Option Addr)(u_5n u_5c:Nat)(u_6p:Option Addr)(u_6n u_6c:Nat)(land day:Int):FX X 21 #[.agg #[u_0,u_1,u_2,u_3,.slice u_4p u_4n u_4c,.slice u_5p u_5n u_5c,.slice u_6p u_6n u_6c],land,day] h A (n28 u_0 u_1 u_2 u_3 u_4p u_4n u_4c u_5p u_5n u_5c u_6p u_6n u_6c land day):=fk [3,12] [⟨2,[(10,.slice),(49,.int .i64)],[3,12],[],[],[]⟩,⟨0,[(10,.slice),(31,.int .i64)],[3],[],[],[]⟩] [⟨9,[],[3,12],[1],[],[]⟩] Tryz.f21
def n31(u_0 u_1 u_2 u_3:Int)(u_4p:Option Addr)(u_4n u_4c:Nat)(u_5p:Option Addr)(u_5n u_5c:Nat)(u_6p:Option Addr)(u_6n u_6c:Nat)(land day:Int)(papersp:Option Addr)(papersn papersc:Nat):T:=.new 29 #[.slice papersp papersn papersc] fun r=>.cl 47 #[land] fun v=>.nds [.val (.func (Fn.func 54) #[] #[.pointer (some ⟨r,0,none⟩)]),day,.val (.agg #[u_0,u_1,u_2,u_3,.slice u_4p u_4n u_4c,.slice u_5p u_5n u_5c,.slice u_6p u_6n u_6c])] (.cl 45 #[day] fun v_1=>.nds [.val (.func (Fn.func 54) #[] #[.pointer (some ⟨r,0,none⟩)]),.val (.agg #[u_0,u_1,u_2,u_3,.slice u_4p u_4n u_4c,.slice u_5p u_5n u_5c,.slice u_6p u_6n u_6c])] (.sem false (Instr.buildSlice 150 3 #[(0,v),(1,v_1),(2,.func (Fn.func 54) #[] #[.pointer (some ⟨r,0,none⟩)])]) fun v=>.unS v fun a n c=>.nd (.agg #[u_0,u_1,u_2,u_3,.slice u_4p u_4n u_4c,.slice u_5p u_5n u_5c,.slice u_6p u_6n u_6c]) (.cT 44 #[.agg #[u_0,u_1,u_2,u_3,.slice u_4p u_4n u_4c,.slice u_5p u_5n u_5c,.slice u_6p u_6n u_6c],.slice a n c] fun v vs=>.unP v fun a=>.unCons vs fun v vs=>.ui v fun n=>.unNil vs (.nd n (bif n != 0 then .rt (.tuple #[false,n]) else .loadS ⟨r,0,none⟩ fun p n c=>.cl 50 #[.pointer a,land,day] fun v=>.unS v fun a n_1 c_1=>.loadS ⟨r,0,none⟩ fun p_1 n_2 c_2=>.ne (.slice p_1 n_2 c_2) (.slice p n c) (.nds [day,land,.val (.agg #[u_0,u_1,u_2,u_3,.slice u_4p u_4n u_4c,.slice u_5p u_5n u_5c,.slice u_6p u_6n u_6c])] (.cB 52 #[.agg #[u_0,u_1,u_2,u_3,.slice u_4p u_4n u_4c,.slice u_5p u_5n u_5c,.slice u_6p u_6n u_6c],land,day,.slice p n c,.slice a n_1 c_1] fun b=>.rt (.tuple #[b,.int .i64 0]))))))))
theorem w31(u_0 u_1 u_2 u_3:Int)(u_4p:Option Addr)(u_4n u_4c:Nat)(u_5p:Option Addr)(u_5n u_5c:Nat)(u_6p:Option Addr)(u_6n u_6c:Nat)(land day:Int)(papersp:Option Addr)(papersn papersc:Nat):FX X 23 #[.agg #[u_0,u_1,u_2,u_3,.slice u_4p u_4n u_4c,.slice u_5p u_5n u_5c,.slice u_6p u_6n u_6c],land,day,.slice papersp papersn papersc] h A (n31 u_0 u_1 u_2 u_3 u_4p u_4n u_4c u_5p u_5n u_5c u_6p u_6n u_6c land day papersp papersn papersc):=fk [4] [] [] Tryz.f23
def n33(u_0 u_1 u_2 u_3:Int)(u_4p:Option Addr)(u_4n u_4c:Nat)(u_5p:Option Addr)(u_5n u_5c:Nat)(u_6p:Option Addr)(u_6n u_6c:Nat)(land day:Int):T:=.new 26 #[u_0,u_1,u_2,u_3,.slice u_4p u_4n u_4c,.slice u_5p u_5n u_5c,.slice u_6p u_6n u_6c] fun r=>.new 3 #[land] fun r_1=>.new 3 #[day] fun r_2=>.li (Addr.add ⟨r,0,none⟩ 0) fun n=>.li (Addr.add ⟨r,0,none⟩ 1) fun n_1=>.li (Addr.add ⟨r,0,none⟩ 2) fun n_2=>.li (Addr.add ⟨r,0,none⟩ 3) fun n_3=>.loadS (Addr.add ⟨r,0,none⟩ 4) fun p n_4 c=>.loadS (Addr.add ⟨r,0,none⟩ 5) fun p_1 n_5 c_1=>.loadS (Addr.add ⟨r,0,none⟩ 6) fun p_2 n_6 c_2=>.li ⟨r_1,0,none⟩ fun n_7=>.li ⟨r_2,0,none⟩ fun n_8=>.cl 47 #[n_7] fun v=>.li ⟨r_2,0,none⟩ fun n_9=>.ne n_9 n_8 (.li (Addr.add ⟨r,0,none⟩ 0) fun n_10=>.li (Addr.add ⟨r,0,none⟩ 1) fun n_11=>.li (Addr.add ⟨r,0,none⟩ 2) fun n_12=>.li (Addr.add ⟨r,0,none⟩ 3) fun n_13=>.loadS (Addr.add ⟨r,0,none⟩ 4) fun p_3 n_14 c_3=>.loadS (Addr.add ⟨r,0,none⟩ 5) fun p_4 n_15 c_4=>.loadS (Addr.add ⟨r,0,none⟩ 6) fun p_5 n_16 c_5=>.ne (.agg #[n_10,n_11,n_12,n_13,.slice p_3 n_14 c_3,.slice p_4 n_15 c_4,.slice p_5 n_16 c_5]) (.agg #[n,n_1,n_2,n_3,.slice p n_4 c,.slice p_1 n_5 c_1,.slice p_2 n_6 c_2]) (.cl 45 #[n_8] fun v_1=>.li (Addr.add ⟨r,0,none⟩ 0) fun n_17=>.li (Addr.add ⟨r,0,none⟩ 1) fun n_18=>.li (Addr.add ⟨r,0,none⟩ 2) fun n_19=>.li (Addr.add ⟨r,0,none⟩ 3) fun n_20=>.loadS (Addr.add ⟨r,0,none⟩ 4) fun p_6 n_21 c_6=>.loadS (Addr.add ⟨r,0,none⟩ 5) fun p_7 n_22 c_7=>.loadS (Addr.add ⟨r,0,none⟩ 6) fun p_8 n_23 c_8=>.ne (.agg #[n_17,n_18,n_19,n_20,.slice p_6 n_21 c_6,.slice p_7 n_22 c_7,.slice p_8 n_23 c_8]) (.agg #[n,n_1,n_2,n_3,.slice p n_4 c,.slice p_1 n_5 c_1,.slice p_2 n_6 c_2]) (.sem false (Instr.buildSlice 150 2 #[(0,v),(1,v_1)]) fun v=>.unS v fun a n_24 c_9=>.li (Addr.add ⟨r,0,none⟩ 0) fun n_25=>.li (Addr.add ⟨r,0,none⟩ 1) fun n_26=>.li (Addr.add ⟨r,0,none⟩ 2) fun n_27=>.li (Addr.add ⟨r,0,none⟩ 3) fun n_28=>.loadS (Addr.add ⟨r,0,none⟩ 4) fun p_9 n_29 c_10=>.loadS (Addr.add ⟨r,0,none⟩ 5) fun p_10 n_30 c_11=>.loadS (Addr.add ⟨r,0,none⟩ 6) fun p_11 n_31 c_12=>.ne (.agg #[n_25,n_26,n_27,n_28,.slice p_9 n_29 c_10,.slice p_10 n_30 c_11,.slice p_11 n_31 c_12]) (.agg #[n,n_1,n_2,n_3,.slice p n_4 c,.slice p_1 n_5 c_1,.slice p_2 n_6 c_2]) (.cT 44 #[.agg #[n,n_1,n_2,n_3,.slice p n_4 c,.slice p_1 n_5 c_1,.slice p_2 n_6 c_2],.slice a n_24 c_9] fun v vs=>.unP v fun a=>.unCons vs fun v vs=>.ui v fun n=>.unNil vs (.nd n (bif n != 0 then .rt (.tuple #[.slice none 0 0,n]) else .li ⟨r_1,0,none⟩ fun n=>.li ⟨r_2,0,none⟩ fun n_32=>.cl 50 #[.pointer a,n,n_32] fun v=>.unS v fun a n c=>.new 66 #[.slice none 0 0] fun r_3=>.store (Addr.add ⟨r_3,0,none⟩ 0) (.slice a n c) (.sem false (Instr.makeChan 114 (.int .i64 0)) fun v=>.unC v fun a=>.new 114 #[.chan none] fun r_4=>.store (Addr.add ⟨r_4,0,none⟩ 0) (.chan a) (.loadS (Addr.add ⟨r,0,none⟩ 5) fun p n c=>.need (0<=(↑n:Int)) (.loop [.int .i64 0] (fun vs=>.pi vs fun n_33 vs=>.unNil vs (bif decide (n_33<wrap .i64 (1*2^min (Int.toNat (↑n:Int)) 64)) then .new 3 #[.int .i64 0] fun r_5=>.store (Addr.add ⟨r_5,0,none⟩ 0) (.int .i64 n_33) (.spawn (.func (Fn.func 51) #[] #[.pointer (some ⟨r,0,none⟩),.pointer (some ⟨r_5,0,none⟩),.pointer (some ⟨r_1,0,none⟩),.pointer (some ⟨r_2,0,none⟩),.pointer (some ⟨r_3,0,none⟩),.pointer (some ⟨r_4,0,none⟩)]) #[] (.ag [.int .i64 (wrap .i64 (n_33+1))])) else .bk [n_33])) (fun vs=>.pi vs fun n_33 vs=>.unNil vs (.loop [.slice none 0 0,.int .i64 0] (fun vs=>.popS vs fun a n_34 c vs=>.pi vs fun n_35 vs=>.unNil vs (bif decide (n_35<wrap .i64 (1*2^min (Int.toNat (↑n:Int)) 64)) then .loadC ⟨r_4,0,none⟩ fun p=>.comm false #[{ chan:=.chan p,send:=none,zero:=.slice none 0 0 }] (CommShape.recv false) fun v=>.unS v fun a_1 n c_13=>.sem false (Sem.bind (eqGuard BinOp.neq 29 (Operand.tmp 49) (Operand.const (.slice none 0 0)) (.slice a_1 n c_13) (.slice none 0 0)) fun __r=>binOp BinOp.neq 29 (.slice a_1 n c_13) (.slice none 0 0)) fun v=>.unB v fun b=>bif b then .sem false (Sem.bind (eqGuard BinOp.eql 29 (Operand.tmp 52) (Operand.const (.slice none 0 0)) (.slice a n_34 c) (.slice none 0 0)) fun __r=>binOp BinOp.eql 29 (.slice a n_34 c) (.slice none 0 0)) fun v=>.unB v fun b=>bif b then .ag [.slice a_1 n c_13,.int .i64 (wrap .i64 (n_35+1))] else .cI 53 #[.slice a_1 n c_13,.slice a n_34 c] fun n_36=>bif decide (n_36<0) then .ag [.slice a_1 n c_13,.int .i64 (wrap .i64 (n_35+1))] else .ag [.slice a n_34 c,.int .i64 (wrap .i64 (n_35+1))] else .ag [.slice a n_34 c,.int .i64 (wrap .i64 (n_35+1))] else .bk [.slice a n_34 c,n_35])) (fun vs=>.popS vs fun a n c vs=>.pi vs fun n_34 vs=>.unNil vs (.loadC ⟨r_4,0,none⟩ fun p=>.sem false (Builtin.close_ #[114] 0 #[.chan p]) fun v=>.rt (.tuple #[.slice a n c,.int .i64 0]))) (fun vs=>.popS vs fun a n c vs=>.pi vs fun n vs=>.unNil vs (.rt (.tuple #[.slice none 0 0,.int .i64 0]))) fun x x_1=>.fail)) (fun vs=>.pi vs fun n vs=>.unNil vs (.rt (.tuple #[.slice none 0 0,.int .i64 0]))) fun x x_1=>.fail)))))))))
theorem w33(u_0 u_1 u_2 u_3:Int)(u_4p:Option Addr)(u_4n u_4c:Nat)(u_5p:Option Addr)(u_5n u_5c:Nat)(u_6p:Option Addr)(u_6n u_6c:Nat)(land day:Int):FX X 22 #[.agg #[u_0,u_1,u_2,u_3,.slice u_4p u_4n u_4c,.slice u_5p u_5n u_5c,.slice u_6p u_6n u_6c],land,day] h A (n33 u_0 u_1 u_2 u_3 u_4p u_4n u_4c u_5p u_5n u_5c u_6p u_6n u_6c land day):=fk [] [⟨0,[(39,.int .i64)],[],[],[],[]⟩,⟨2,[(14,.slice),(45,.int .i64)],[],[],[],[]⟩] [] Tryz.f22
def n53(u_0 u_1 u_2 u_3:Int)(u_4p:Option Addr)(u_4n u_4c:Nat)(u_5p:Option Addr)(u_5n u_5c:Nat)(u_6p:Option Addr)(u_6n u_6c:Nat)(wrongp:Option Addr)(wrongn wrongc:Nat):T:=.cI 74 #[.agg #[u_0,u_1,u_2,u_3,.slice u_4p u_4n u_4c,.slice u_5p u_5n u_5c,.slice u_6p u_6n u_6c]] fun n=>bif n != 0 then .rt (.tuple #[.pointer none,n]) else .loop [.pointer none,.int .i64 0,.int .i64 0] (fun vs=>.popP vs fun a vs=>.pi vs fun n vs=>.pi vs fun n_1 vs=>.unNil vs (bif decide (n_1<(↑wrongn:Int)) then .need (0<=n_1/\n_1<(↑wrongn:Int)) (.someA wrongp fun a_1=>.loadV (a_1.add (n_1.toNat*1)) fun v=>.callv false v #[.agg #[u_0,u_1,u_2,u_3,.slice u_4p u_4n u_4c,.slice u_5p u_5n u_5c,.slice u_6p u_6n u_6c]] fun v=>.ui v fun n_2=>bif n_2 != 0 then .rn [.pointer none,n_2,n_1] else .ag [.pointer a,n,.int .i64 (wrap .i64 (n_1+1))]) else .bk [.pointer a,n,n_1])) (fun vs=>.popP vs fun a vs=>.pi vs fun n vs=>.pi vs fun n_1 vs=>.unNil vs (.sem false (Instr.makeMap 151 none) fun v=>.unM v fun a_1=>.sem false (Instr.build 154 #[(0,.agg #[u_0,u_1,u_2,u_3,.slice u_4p u_4n u_4c,.slice u_5p u_5n u_5c,.slice u_6p u_6n u_6c]),(2,.map a_1)]) fun v=>.new 154 (Value.cells v) fun r=>.loop [.int .i64 0] (fun vs=>.pi vs fun n vs=>.unNil vs (bif decide (n<2001) then .new 3 #[.int .i64 0] fun r_1=>.store (Addr.add ⟨r_1,0,none⟩ 0) (.int .i64 n) (.li ⟨r_1,0,none⟩ fun n_2=>.someA (some ⟨r,0,none⟩) fun a=>.cB 65 #[.slice u_4p u_4n u_4c,.func (Fn.func 75) #[] #[.pointer (some ⟨r_1,0,none⟩)]] fun b=>.nO (a.add 7) (.someA (some ⟨r,0,none⟩) fun a_2=>.nq a_2 a (.np 2 4 (.li ⟨r_1,0,none⟩ fun n_3=>.ne n_3 n_2 (.nd (.pointer (some ⟨r,0,none⟩)) (.need (0<=n_2/\n_2<(↑2001:Int)) (.store (((a.add 7).add (n_2.toNat*1)).add 0) (.bool !b) (.nO (a.add 7) (.someA (some ⟨r,0,none⟩) fun a_3=>.nq a_3 a (.ag [.int .i64 (wrap .i64 (n+1))])))))))))) else .bk [n])) (fun vs=>.pi vs fun n vs=>.unNil vs (.rt (.tuple #[.pointer (some ⟨r,0,none⟩),.int .i64 0]))) (fun vs=>.pi vs fun n_2 vs=>.unNil vs (.rt (.tuple #[.pointer a,n]))) fun x x_1=>.fail)) (fun vs=>.popP vs fun a vs=>.pi vs fun n vs=>.pi vs fun n_1 vs=>.unNil vs (.rt (.tuple #[.pointer a,n]))) fun x x_1=>.fail
theorem w53(u_0 u_1 u_2 u_3:Int)(u_4p:Option Addr)(u_4n u_4c:Nat)(u_5p:Option Addr)(u_5n u_5c:Nat)(u_6p:Option Addr)(u_6n u_6c:Nat)(wrongp:Option Addr)(wrongn wrongc:Nat):FX X 44 #[.agg #[u_0,u_1,u_2,u_3,.slice u_4p u_4n u_4c,.slice u_5p u_5n u_5c,.slice u_6p u_6n u_6c],.slice wrongp wrongn wrongc] h A (n53 u_0 u_1 u_2 u_3 u_4p u_4n u_4c u_5p u_5n u_5c u_6p u_6n u_6c wrongp wrongn wrongc):=fk [2] [⟨0,[(4,.ptr),(5,.int .i64),(19,.int .i64)],[2],[],[],[]⟩,⟨2,[(36,.int .i64)],[2],[],[],[]⟩] [] Tryz.f44
def n54(day:Int):T:=.new 3 #[day] fun r=>.rt (.func (Fn.func 77) #[] #[.pointer (some ⟨r,0,none⟩)])
theorem w54(day:Int):FX X 45 #[day] h A (n54 day):=fk [] [] [] Tryz.f45
def n55(d:Option Addr)(day:Int):T:=.someA d fun a=>.li (((a.add 0).add 0).add 3) fun n=>.blk (.someA d fun a=>.loadM (a.add 2008) fun p=>.both (.sem false (Instr.lookup 151 (.map p) (.agg #[day,n]) true) fun v=>.unTup v fun l=>.unCons l fun v vs=>.unAgg v fun l=>.pi l fun n vs_1=>.pi vs_1 fun n_1 vs_2=>.unNil vs_2 (.unCons vs fun v vs=>.unB v fun b=>.unNil vs (.nO (a.add 2008) (.someA d fun a_1=>.nq a_1 a (.nds [.val (.pointer d),b,.val (.agg #[n,n_1]),.val (.tuple #[.agg #[n,n_1],b]),.O (a.add 2008)] (.someA d fun a_2=>.nq a_2 a (.nds [.val (.pointer d),b] (bif b then .rn [n,n_1] else .ag [.int .i64 0,.int .i64 0])))))))) (.nd (.agg #[day,n]) (.loadM (a.add 2008) fun p_1=>.ne (.map p_1) (.map p) (.nO (a.add 2008) (.someA d fun a_1=>.nq a_1 a (.nd (.pointer d) (.sem false (Instr.lookup 151 (.map p) (.agg #[day,n]) true) fun v=>.unTup v fun l=>.unCons l fun v vs=>.unAgg v fun l=>.pi l fun n vs_1=>.pi vs_1 fun n_1 vs_2=>.unNil vs_2 (.unCons vs fun v vs=>.unB v fun b=>.unNil vs (.nO (a.add 2008) (.someA d fun a_2=>.nq a_2 a (.nds [.val (.pointer d),b] (bif b then .rn [n,n_1] else .ag [.int .i64 0,.int .i64 0])))))))))))) (fun vs=>.pi vs fun n_1 vs=>.pi vs fun n_2 vs=>.unNil vs (.someA d fun a=>.li (((a.add 0).add 0).add 3) fun n_3=>.loop [n_3,day,day] (fun vs=>.pi vs fun n vs=>.pi vs fun n_4 vs=>.pi vs fun n_5 vs=>.unNil vs (bif decide (n_4>0) then .someA d fun a=>.need (0<=n_4/\n_4<(↑2001:Int)) (.loadB ((a.add 7).add (n_4.toNat*1)) fun b=>bif b then bif wrap .i64 (n-1)==0 then .bk [.int .i64 (wrap .i64 (n-1)),n_4,n_5] else .ag [.int .i64 (wrap .i64 (n-1)),.int .i64 (wrap .i64 (n_4-1)),n_5] else bif n==0 then .bk [n,n_4,n_5] else .ag [n,.int .i64 (wrap .i64 (n_4-1)),n_5]) else .bk [n,n_4,n_5])) (fun vs=>.pi vs fun n_4 vs=>.pi vs fun n_5 vs=>.pi vs fun n_6 vs=>.unNil vs (.someA d fun a=>.loadM (a.add 2008) fun p=>.sem false (Sem.bind (Instr.mapUpdate 151 (.map p) (.agg #[day,n]) (.agg #[n_5,n_6])) fun __r=>pure (.tuple #[])) fun x=>.rt (.agg #[n_5,n_6]))) (fun vs=>.pi vs fun n vs=>.pi vs fun n vs=>.pi vs fun n vs=>.unNil vs (.rt (.agg #[n_1,n_2]))) fun x x_1=>.fail)) (fun vs=>.pi vs fun n vs=>.pi vs fun n_1 vs=>.unNil vs (.rt (.agg #[n,n_1]))) fun x x_1=>.fail
theorem w55(d:Option Addr)(day:Int):FX X 46 #[.pointer d,day] h A (n55 d day):=fk [4,5,6,8] [⟨0,[(9,.int .i64),(36864,.int .i64),(36865,.int .i64)],[4,5,6],[],[],[]⟩] [⟨5,[(20480,.int .i64),(20481,.int .i64)],[5],[],[],[]⟩] Tryz.f46
def n58(land:Int):T:=.new 3 #[land] fun r=>.rt (.func (Fn.func 80) #[] #[.pointer (some ⟨r,0,none⟩)])
theorem w58(land:Int):FX X 47 #[land] h A (n58 land):=fk [] [] [] Tryz.f47
def n59(item:Int):T:=.new 3 #[item] fun r=>.rt (.func (Fn.func 82) #[] #[.pointer (some ⟨r,0,none⟩)])
theorem w59(item:Int):FX X 48 #[item] h A (n59 item):=fk [] [] [] Tryz.f48
def n60(d:Option Addr)(land item day:Int):T:=.cl 46 #[.pointer d,day] fun v=>.unAgg v fun l=>.pi l fun n vs=>.pi vs fun n_1 vs=>.unNil vs (.someA d fun a=>.li (((a.add 0).add 0).add 2) fun n_2=>.cB 76 #[n_2,n,n_1] fun b=>.nds [.pp 9 1,.pp 9 0,.val (.pointer (some (((a.add 0).add 0).add 2))),.O ((a.add 0).add 0),.O (a.add 0)] (.someA d fun a_1=>.nq a_1 a (.nd (.pointer d) (bif b then .rt (.int .i64 1) else .cl 83 #[.pointer d,land,item] fun v=>.each v [.int .i64 0,.int .i64 2] (fun xs vs=>.unCons xs fun v vs_1=>.unAgg v fun l=>.pi l fun n_3 vs_2=>.pi vs_2 fun n_4 vs_3=>.pi vs_3 fun n_5 vs_4=>.popS vs_4 fun a n_6 c vs_5=>.unNil vs_5 (.unNil vs_1 (.pi vs fun n_7 vs=>.pi vs fun n_8 vs=>.unNil vs (.nds [.val (.int .i64 (if n_4<n_1 then n_4 else n_1)),n_4,.pp 11 1,.pp 11 0,n_1,.pp 9 1] (.sem false (Sem.bind (eqGuard BinOp.eql 28 (Operand.tmp 47) (Operand.tmp 49) (.agg #[.int .i64 (if n_3>n then n_3 else n),.int .i64 (if n_4<n_1 then n_4 else n_1)]) (.agg #[n_3,n_4])) fun __r=>binOp BinOp.eql 28 (.agg #[.int .i64 (if n_3>n then n_3 else n),.int .i64 (if n_4<n_1 then n_4 else n_1)]) (.agg #[n_3,n_4])) fun v=>.unB v fun b=>bif b then .rn [.int .i64 1,n_8] else bif decide ((if n_3>n then n_3 else n)<=if n_4<n_1 then n_4 else n_1) then .ag [n_7,.int .i64 0] else .ag [n_7,n_8]))))) (fun vs=>.pi vs fun n vs=>.pi vs fun n vs=>.unNil vs (.rt (.int .i64 n))) (fun vs=>.pi vs fun n vs=>.pi vs fun n vs=>.unNil vs (.rt (.int .i64 n))) (fun vs=>.pi vs fun n vs=>.pi vs fun n_3 vs=>.unNil vs (.rt (.int .i64 n))) fun x x_1=>.fail))))
theorem w60(d:Option Addr)(land item day:Int):FX X 49 #[.pointer d,land,item,day] h A (n60 d land item day):=fk [8,9,10,11] [{ id:=0,slots:=[(36864,.int .i64),(45056,.int .i64)],ro:=[9],outs:=[],ps:=[.agg [.int .i64,.int .i64,.int .i64,.slice]] }] [] Tryz.f49
def n63(d:Option Addr)(land day:Int):T:=.someA d fun a=>.li (((a.add 0).add 0).add 0) fun n=>.loop [.slice none 0 0,.int .i64 0] (fun vs=>.popS vs fun a n_1 c vs=>.pi vs fun n_2 vs=>.unNil vs (bif decide (n_2<n) then .cI 84 #[.pointer d,land,n_2,day] fun n=>.sem false (Instr.buildSlice 66 1 #[(0,.int .i64 n)]) fun v=>.unS v fun a_1 n c_1=>.sem false (Builtin.append_ #[66,66] 66 #[.slice a n_1 c,.slice a_1 n c_1]) fun v=>.unS v fun a n c=>.ag [.slice a n c,.int .i64 (wrap .i64 (n_2+1))] else .bk [.slice a n_1 c,n_2])) (fun vs=>.popS vs fun a n c vs=>.pi vs fun n_1 vs=>.unNil vs (.rt (.slice a n c))) (fun vs=>.popS vs fun a n c vs=>.pi vs fun n vs=>.unNil vs (.rt (.slice none 0 0))) fun x x_1=>.fail
theorem w63(d:Option Addr)(land day:Int):FX X 50 #[.pointer d,land,day] h A (n63 d land day):=fk [] [⟨0,[(7,.slice),(15,.int .i64)],[],[],[],[]⟩] [] Tryz.f50
def n69(u_0 u_1 u_2 u_3:Int)(u_4p:Option Addr)(u_4n u_4c:Nat)(u_5p:Option Addr)(u_5n u_5c:Nat)(u_6p:Option Addr)(u_6n u_6c:Nat)(z0:Addr):T:=.loadS z0 fun p n c=>.cI 55 #[.slice p n c,.int .i64 (↑u_5n:Int)] fun n=>.rt (.int .i64 n)
theorem w69(u_0 u_1 u_2 u_3:Int)(u_4p:Option Addr)(u_4n u_4c:Nat)(u_5p:Option Addr)(u_5n u_5c:Nat)(u_6p:Option Addr)(u_6n u_6c:Nat)(z0:Addr):FX X 54 #[.agg #[u_0,u_1,u_2,u_3,.slice u_4p u_4n u_4c,.slice u_5p u_5n u_5c,.slice u_6p u_6n u_6c],.pointer (some z0)] h A (n69 u_0 u_1 u_2 u_3 u_4p u_4n u_4c u_5p u_5n u_5c u_6p u_6n u_6c z0):=fk [2] [] [] Tryz.f54
def n70(lp:Option Addr)(ln lc:Nat)(below:Int):T:=.new 29 #[.slice lp ln lc] fun r=>.new 3 #[below] fun r_1=>.loadS ⟨r,0,none⟩ fun p n c=>.loadS ⟨r,0,none⟩ fun p_1 n_1 c_1=>.cI 86 #[.slice p n c,.int .i64 (↑n_1:Int),.func (Fn.func 87) #[] #[.pointer (some ⟨r_1,0,none⟩),.pointer (some ⟨r,0,none⟩)]] fun n=>.rt (.int .i64 n)
theorem w70(lp:Option Addr)(ln lc:Nat)(below:Int):FX X 55 #[.slice lp ln lc,below] h A (n70 lp ln lc below):=fk [] [] [] Tryz.f55
def n71(u_0 u_1 u_2 u_3:Int)(u_4p:Option Addr)(u_4n u_4c:Nat)(u_5p:Option Addr)(u_5n u_5c:Nat)(u_6p:Option Addr)(u_6n u_6c:Nat)(land day:Int)(papersp:Option Addr)(papersn papersc:Nat)(allp:Option Addr)(alln allc:Nat):T:=.loop [.int .i64 0,u_0,u_1,u_2,u_3,.slice u_4p u_4n u_4c,.slice none 0 0,.slice u_6p u_6n u_6c] (fun vs=>.pi vs fun n vs=>.pi vs fun n_1 vs=>.pi vs fun n_2 vs=>.pi vs fun n_3 vs=>.pi vs fun n_4 vs=>.popS vs fun a n_5 c vs=>.popS vs fun a_1 n_6 c_1 vs=>.popS vs fun a_2 n_7 c_2 vs=>.unNil vs (bif decide (n<(↑papersn:Int)) then .need (0<=n/\n<(↑papersn:Int)) (.someA papersp fun a_3=>.li (a_3.add (n.toNat*1)) fun n_8=>.need (0<=n_8/\n_8<(↑u_5n:Int)) (.someA u_5p fun a_4=>.li ((a_4.add (n_8.toNat*4)).add 0) fun n_9=>.li ((a_4.add (n_8.toNat*4)).add 1) fun n_10=>.li ((a_4.add (n_8.toNat*4)).add 2) fun n_11=>.loadS ((a_4.add (n_8.toNat*4)).add 3) fun p n_12 c_3=>.sem false (Instr.buildSlice 23 1 #[(0,.agg #[n_9,n_10,n_11,.slice p n_12 c_3])]) fun v=>.unS v fun a_5 n_13 c_4=>.need (0<=n_8/\n_8<(↑u_5n:Int)) (.someA u_5p fun a_6=>.ne (.pointer (some (a_6.add (n_8.toNat*4)))) (.pointer (some (a_4.add (n_8.toNat*4)))) (.nds [n_8,.S u_5p u_5n u_5c,.pp 5 5,.S a_1 n_6 c_1,.pp 11 5] (.sem false (Builtin.append_ #[23,23] 23 #[.slice a_1 n_6 c_1,.slice a_5 n_13 c_4]) fun v=>.unS v fun a_7 n_14 c_5=>.need (0<=n_8/\n_8<(↑u_5n:Int)) (.someA u_5p fun a_8=>.ne (.pointer (some (a_8.add (n_8.toNat*4)))) (.pointer (some (a_4.add (n_8.toNat*4)))) (.nds [n_8,.S u_5p u_5n u_5c,.pp 5 5,.pp 11 5] (.ag [.int .i64 (wrap .i64 (n+1)),n_1,n_2,n_3,n_4,.slice a n_5 c,.slice a_7 n_14 c_5,.slice a_2 n_7 c_2])))))))) else .bk [n,n_1,n_2,n_3,n_4,.slice a n_5 c,.slice a_1 n_6 c_1,.slice a_2 n_7 c_2])) (fun vs=>.pi vs fun n vs=>.pi vs fun n vs=>.pi vs fun n_1 vs=>.pi vs fun n_2 vs=>.pi vs fun n_3 vs=>.popS vs fun a n_4 c vs=>.popS vs fun a_1 n_5 c_1 vs=>.popS vs fun a_2 n_6 c_2 vs=>.unNil vs (.cT 44 #[.agg #[n,n_1,n_2,n_3,.slice a n_4 c,.slice a_1 n_5 c_1,.slice a_2 n_6 c_2],.slice none 0 0] fun v vs=>.unP v fun a=>.unCons vs fun v vs=>.ui v fun n=>.unNil vs (bif n != 0 then .rt (.bool false) else .cl 50 #[.pointer a,land,day] fun v=>.unS v fun a n c=>.loop [false,.int .i64 0] (fun vs=>.popB vs fun b vs=>.pi vs fun n_7 vs=>.unNil vs (bif decide (n_7<(↑n:Int)) then .need (0<=n_7/\n_7<(↑n:Int)) (.someA a fun a=>.li (a.add (n_7.toNat*1)) fun n=>.need (0<=n_7/\n_7<(↑alln:Int)) (.someA allp fun a=>.li (a.add (n_7.toNat*1)) fun n_8=>bif n_8==1 then bif n != 1 then .rn [false,n_7] else .ag [b,.int .i64 (wrap .i64 (n_7+1))] else .ag [b,.int .i64 (wrap .i64 (n_7+1))])) else .bk [b,n_7])) (fun vs=>.popB vs fun b vs=>.pi vs fun n vs=>.unNil vs (.rt (.bool true))) (fun vs=>.popB vs fun b vs=>.pi vs fun n vs=>.unNil vs (.rt (.bool b))) fun x x_1=>.fail))) (fun vs=>.pi vs fun n vs=>.pi vs fun n vs=>.pi vs fun n vs=>.pi vs fun n vs=>.pi vs fun n vs=>.popS vs fun a n c vs=>.popS vs fun a n c vs=>.popS vs fun a n c vs=>.unNil vs (.rt (.bool false))) fun x x_1=>.fail
theorem w71(u_0 u_1 u_2 u_3:Int)(u_4p:Option Addr)(u_4n u_4c:Nat)(u_5p:Option Addr)(u_5n u_5c:Nat)(u_6p:Option Addr)(u_6n u_6c:Nat)(land day:Int)(papersp:Option Addr)(papersn papersc:Nat)(allp:Option Addr)(alln allc:Nat):FX X 52 #[.agg #[u_0,u_1,u_2,u_3,.slice u_4p u_4n u_4c,.slice u_5p u_5n u_5c,.slice u_6p u_6n u_6c],land,day,.slice papersp papersn papersc,.slice allp alln allc] h A (n71 u_0 u_1 u_2 u_3 u_4p u_4n u_4c u_5p u_5n u_5c u_6p u_6n u_6c land day papersp papersn papersc allp alln allc):=fk [5,11] [⟨0,[(22,.int .i64),(49152,.int .i64),(49153,.int .i64),(49154,.int .i64),(49155,.int .i64),(49156,.slice),(49157,.slice),(49158,.slice)],[5],[],[],[]⟩,⟨2,[(10,.bool),(49,.int .i64)],[5,11],[],[],[]⟩] [] Tryz.f52
def n74(z0 z1 z2 z3 z4 z5:Addr):T:=.sem false (Instr.buildSlice 29 0 #[]) fun v=>.unS v fun a n c=>.loadS (z0.add 5) fun p n_1 c_1=>.loop [.slice a n c,.int .i64 0] (fun vs=>.popS vs fun a n c vs=>.pi vs fun n_2 vs=>.unNil vs (bif decide (n_2<(↑n_1:Int)) then .li z1 fun n_3=>.need (0<=n_2) (bif wrap .i64 (↑(BitVec.toNat (BitVec.ofInt 64 (Int.fdiv n_3 (2^min (n_2.toNat) 64)) &&& BitVec.ofInt 64 1)):Int)==1 then .sem false (Instr.buildSlice 29 1 #[(0,.int .i64 n_2)]) fun v=>.unS v fun a_1 n_4 c_2=>.sem false (Builtin.append_ #[29,29] 29 #[.slice a n c,.slice a_1 n_4 c_2]) fun v=>.unS v fun a n c=>.ag [.slice a n c,.int .i64 (wrap .i64 (n_2+1))] else .ag [.slice a n c,.int .i64 (wrap .i64 (n_2+1))]) else .bk [.slice a n c,n_2])) (fun vs=>.popS vs fun a n c vs=>.pi vs fun n_2 vs=>.unNil vs (.li (z0.add 0) fun n_3=>.li (z0.add 1) fun n_4=>.li (z0.add 2) fun n_5=>.li (z0.add 3) fun n_6=>.loadS (z0.add 4) fun p n_7 c_2=>.loadS (z0.add 5) fun p_1 n_8 c_3=>.loadS (z0.add 6) fun p_2 n_9 c_4=>.li z2 fun n_10=>.li z3 fun n_11=>.loadS z4 fun p_3 n_12 c_5=>.cB 52 #[.agg #[n_3,n_4,n_5,n_6,.slice p n_7 c_2,.slice p_1 n_8 c_3,.slice p_2 n_9 c_4],n_10,n_11,.slice a n c,.slice p_3 n_12 c_5] fun b=>bif !b then .loadC z5 fun p=>.comm true #[{ chan:=.chan p,send:=some (.slice none 0 0),zero:=.tuple #[] }] CommShape.send fun v=>.rt (.tuple #[]) else .loadC z5 fun p=>.comm true #[{ chan:=.chan p,send:=some (.slice a n c),zero:=.tuple #[] }] CommShape.send fun v=>.rt (.tuple #[]))) (fun vs=>.popS vs fun a n c vs=>.pi vs fun n vs=>.unNil vs (.rt (.tuple #[]))) fun x x_1=>.fail
theorem w74(z0 z1 z2 z3 z4 z5:Addr)(hX:XOK X)(hw:(n74 z0 z1 z2 z3 z4 z5).wp X Tryz.prog (retQ A) h):FWK X Tryz.prog .deferred 51 #[.pointer (some z0),.pointer (some z1),.pointer (some z2),.pointer (some z3),.pointer (some z4),.pointer (some z5)] h A:=fwk_neat (show ftree ({ P:=Tryz.prog,priv:=[],loops:=[{ id:=0,slots:=[(6,.slice),(12,.int .i64)],ro:=[],outs:=[] }],joins:=[],kd:=.deferred }) Tryz.f51 [.pointer (some z0),.pointer (some z1),.pointer (some z2),.pointer (some z3),.pointer (some z4),.pointer (some z5)]=n74 z0 z1 z2 z3 z4 z5 by kernel_rfl) (by simp) (by kernel_rfl) (by kernel_rfl) hX hw
def n75(ap:Option Addr)(an ac:Nat)(bp:Option Addr)(bn bc:Nat):T:=bif (↑an:Int) != (↑bn:Int) then .rt (.int .i64 (wrap .i64 ((↑an:Int)-(↑bn:Int)))) else .cI 85 #[.slice ap an ac,.slice bp bn bc] fun n=>.rt (.int .i64 n)
theorem w75(ap:Option Addr)(an ac:Nat)(bp:Option Addr)(bn bc:Nat):FX X 53 #[.slice ap an ac,.slice bp bn bc] h A (n75 ap an ac bp bn bc):=fk [] [] [] Tryz.f53
def n79(sp:Option Addr)(sn sc:Nat)(f:Value):T:=.cI 110 #[.slice sp sn sc,f] fun n=>.rt (.bool (decide (n>=0)))
theorem w79(sp:Option Addr)(sn sc:Nat)(f:Value):FX X 65 #[.slice sp sn sc,f] h A (n79 sp sn sc f):=fk [] [] [] Tryz.f65
def n80(x_0 x_1:Int)(z0:Addr):T:=.li z0 fun n=>.cB 76 #[n,x_0,x_1] fun b=>.rt (.bool b)
theorem w80(x_0 x_1:Int)(z0:Addr):FX X 75 #[.agg #[x_0,x_1],.pointer (some z0)] h A (n80 x_0 x_1 z0):=fk [2] [] [] Tryz.f75
def n81(n first last:Int):T:=bif decide (first<=n) then .rt (.bool (decide (n<=last))) else .rt (.bool false)
theorem w81(n first last:Int):FX X 76 #[n,first,last] h A (n81 n first last):=fk [] [] [] Tryz.f76
def n82(a0_0 a0_1 a0_2 a0_3:Int)(a0_4p:Option Addr)(a0_4n a0_4c:Nat)(a0_5p:Option Addr)(a0_5n a0_5c:Nat)(a0_6p:Option Addr)(a0_6n a0_6c:Nat)(z0:Addr):T:=.li z0 fun n=>.cB 79 #[n] fun b=>.cI 78 #[.bool !b,.int .i64 1] fun n=>.rt (.int .i64 n)
theorem w82(a0_0 a0_1 a0_2 a0_3:Int)(a0_4p:Option Addr)(a0_4n a0_4c:Nat)(a0_5p:Option Addr)(a0_5n a0_5c:Nat)(a0_6p:Option Addr)(a0_6n a0_6c:Nat)(z0:Addr):FX X 77 #[.agg #[a0_0,a0_1,a0_2,a0_3,.slice a0_4p a0_4n a0_4c,.slice a0_5p a0_5n a0_5c,.slice a0_6p a0_6n a0_6c],.pointer (some z0)] h A (n82 a0_0 a0_1 a0_2 a0_3 a0_4p a0_4n a0_4c a0_5p a0_5n a0_5c a0_6p a0_6n a0_6c z0):=fk [2] [] [] Tryz.f77
def n83(is:Bool)(f:Int):T:=bif is then .rt (.int .i64 f) else .rt (.int .i64 0)
theorem w83(is:Bool)(f:Int):FX X 78 #[is,f] h A (n83 is f):=fk [] [] [] Tryz.f78
def n84(n:Int):T:=.cB 76 #[n,.int .i64 0,.int .i64 2000] fun b=>.rt (.bool b)
theorem w84(n:Int):FX X 79 #[n] h A (n84 n):=fk [] [] [] Tryz.f79
def n85(u_0 u_1 u_2 u_3:Int)(u_4p:Option Addr)(u_4n u_4c:Nat)(u_5p:Option Addr)(u_5n u_5c:Nat)(u_6p:Option Addr)(u_6n u_6c:Nat)(z0:Addr):T:=.li z0 fun n=>.cB 81 #[.agg #[u_0,u_1,u_2,u_3,.slice u_4p u_4n u_4c,.slice u_5p u_5n u_5c,.slice u_6p u_6n u_6c],n] fun b=>.cI 78 #[.bool !b,.int .i64 6] fun n=>.rt (.int .i64 n)
theorem w85(u_0 u_1 u_2 u_3:Int)(u_4p:Option Addr)(u_4n u_4c:Nat)(u_5p:Option Addr)(u_5n u_5c:Nat)(u_6p:Option Addr)(u_6n u_6c:Nat)(z0:Addr):FX X 80 #[.agg #[u_0,u_1,u_2,u_3,.slice u_4p u_4n u_4c,.slice u_5p u_5n u_5c,.slice u_6p u_6n u_6c],.pointer (some z0)] h A (n85 u_0 u_1 u_2 u_3 u_4p u_4n u_4c u_5p u_5n u_5c u_6p u_6n u_6c z0):=fk [2] [] [] Tryz.f80
def n86(u_0 u_1 u_2 u_3:Int)(u_4p:Option Addr)(u_4n u_4c:Nat)(u_5p:Option Addr)(u_5n u_5c:Nat)(u_6p:Option Addr)(u_6n u_6c:Nat)(n:Int):T:=.cB 76 #[n,.int .i64 0,.int .i64 (wrap .i64 (u_1-1))] fun b=>.rt (.bool b)
theorem w86(u_0 u_1 u_2 u_3:Int)(u_4p:Option Addr)(u_4n u_4c:Nat)(u_5p:Option Addr)(u_5n u_5c:Nat)(u_6p:Option Addr)(u_6n u_6c:Nat)(n:Int):FX X 81 #[.agg #[u_0,u_1,u_2,u_3,.slice u_4p u_4n u_4c,.slice u_5p u_5n u_5c,.slice u_6p u_6n u_6c],n] h A (n86 u_0 u_1 u_2 u_3 u_4p u_4n u_4c u_5p u_5n u_5c u_6p u_6n u_6c n):=fk [2] [] [] Tryz.f81
def n87(u_0 u_1 u_2 u_3:Int)(u_4p:Option Addr)(u_4n u_4c:Nat)(u_5p:Option Addr)(u_5n u_5c:Nat)(u_6p:Option Addr)(u_6n u_6c:Nat)(z0:Addr):T:=.li z0 fun n=>.cB 76 #[n,.int .i64 0,.int .i64 (wrap .i64 (u_0-1))] fun b=>.cI 78 #[.bool !b,.int .i64 6] fun n=>.rt (.int .i64 n)
theorem w87(u_0 u_1 u_2 u_3:Int)(u_4p:Option Addr)(u_4n u_4c:Nat)(u_5p:Option Addr)(u_5n u_5c:Nat)(u_6p:Option Addr)(u_6n u_6c:Nat)(z0:Addr):FX X 82 #[.agg #[u_0,u_1,u_2,u_3,.slice u_4p u_4n u_4c,.slice u_5p u_5n u_5c,.slice u_6p u_6n u_6c],.pointer (some z0)] h A (n87 u_0 u_1 u_2 u_3 u_4p u_4n u_4c u_5p u_5n u_5c u_6p u_6n u_6c z0):=fk [2] [] [] Tryz.f82
def n88(d:Option Addr)(land item:Int):T:=.new 106 #[.pointer d] fun r=>.new 3 #[land] fun r_1=>.new 3 #[item] fun r_2=>.rt (.func (Fn.func 115) #[] #[.pointer (some ⟨r,0,none⟩),.pointer (some ⟨r_1,0,none⟩),.pointer (some ⟨r_2,0,none⟩)])
theorem w88(d:Option Addr)(land item:Int):FX X 83 #[.pointer d,land,item] h A (n88 d land item):=fk [] [] [] Tryz.f83
def n91(d:Option Addr)(land item day:Int):T:=.cl 116 #[.pointer d,land,item,day] fun v=>.unS v fun a n c=>.loop [true,.int .i64 0] (fun vs=>.popB vs fun b vs=>.pi vs fun n_1 vs=>.unNil vs (bif decide (n_1<(↑n:Int)) then .need (0<=n_1/\n_1<(↑n:Int)) (.someA a fun a=>.li ((a.add (n_1.toNat*3)).add 0) fun n=>.li ((a.add (n_1.toNat*3)).add 1) fun n_2=>.loadS ((a.add (n_1.toNat*3)).add 2) fun p n_3 c=>.cI 49 #[.pointer d,land,item,n] fun n=>bif n != 1 then .bk [false,n_1] else .ag [b,.int .i64 (wrap .i64 (n_1+1))]) else .bk [b,n_1])) (fun vs=>.popB vs fun b vs=>.pi vs fun n_1 vs=>.unNil vs (bif b then .rt (.int .i64 1) else .cB 117 #[.pointer d,land,item,.slice a n c] fun b=>bif b then .rt (.int .i64 2) else .rt (.int .i64 0))) (fun vs=>.popB vs fun b vs=>.pi vs fun n vs=>.unNil vs (.rt (.int .i64 0))) fun x x_1=>.fail
theorem w91(d:Option Addr)(land item day:Int):FX X 84 #[.pointer d,land,item,day] h A (n91 d land item day):=fk [12] [⟨0,[(10,.bool),(20,.int .i64)],[],[],[],[]⟩] [] Tryz.f84
def n94(lp:Option Addr)(ln lc:Nat)(most:Int)(flaw:Value):T:=bif decide ((↑ln:Int)>most) then .rt (.int .i64 2) else .loop [.int .i64 0,.int .i64 0] (fun vs=>.pi vs fun n vs=>.pi vs fun n_1 vs=>.unNil vs (bif decide (n_1<(↑ln:Int)) then .need (0<=n_1/\n_1<(↑ln:Int)) (.someA lp fun a=>.li (a.add (n_1.toNat*1)) fun n_2=>.callv false flaw #[n_1,n_2] fun v=>.ui v fun n_3=>bif n_3 != 0 then .rn [n_3,n_1] else .ag [n,.int .i64 (wrap .i64 (n_1+1))]) else .bk [n,n_1])) (fun vs=>.pi vs fun n vs=>.pi vs fun n vs=>.unNil vs (.rt (.int .i64 0))) (fun vs=>.pi vs fun n vs=>.pi vs fun n_1 vs=>.unNil vs (.rt (.int .i64 n))) fun x x_1=>.fail
theorem w94(lp:Option Addr)(ln lc:Nat)(most:Int)(flaw:Value):FX X 86 #[.slice lp ln lc,most,flaw] h A (n94 lp ln lc most flaw):=fk [] [⟨0,[(6,.int .i64),(16,.int .i64)],[],[],[],[]⟩] [] Tryz.f86
def n95(i n:Int)(z0 z1:Addr):T:=.li z0 fun n_1=>.cB 76 #[n,.int .i64 0,.int .i64 (wrap .i64 (n_1-1))] fun b=>.cI 78 #[.bool !b,.int .i64 6] fun n_2=>bif decide (i>0) then .loadS z1 fun p n_3 c=>.need ((0<=if wrap .i64 (i-1)>0 then wrap .i64 (i-1) else 0)/\(if wrap .i64 (i-1)>0 then wrap .i64 (i-1) else 0)<(↑n_3:Int)) (.someA p fun a=>.li (a.add ((if wrap .i64 (i-1)>0 then wrap .i64 (i-1) else 0).toNat*1)) fun n_4=>.cI 78 #[.bool (decide (n<=n_4)),.int .i64 7] fun n=>.sem false (Instr.buildSlice 131 2 #[(0,.int .i64 n_2),(1,.int .i64 n)]) fun v=>.unS v fun a n c=>.cI 88 #[.slice a n c] fun n=>.rt (.int .i64 n)) else .cI 78 #[false,.int .i64 7] fun n=>.sem false (Instr.buildSlice 131 2 #[(0,.int .i64 n_2),(1,.int .i64 n)]) fun v=>.unS v fun a n c=>.cI 88 #[.slice a n c] fun n=>.rt (.int .i64 n)
theorem w95(i n:Int)(z0 z1:Addr):FX X 87 #[i,n,.pointer (some z0),.pointer (some z1)] h A (n95 i n z0 z1):=fk [] [] [] Tryz.f87
def n96(flawsp:Option Addr)(flawsn flawsc:Nat):T:=.loop [.int .i64 0,.int .i64 0] (fun vs=>.pi vs fun n vs=>.pi vs fun n_1 vs=>.unNil vs (bif decide (n_1<(↑flawsn:Int)) then .need (0<=n_1/\n_1<(↑flawsn:Int)) (.someA flawsp fun a=>.li (a.add (n_1.toNat*1)) fun n_2=>bif n_2 != 0 then .rn [n_2,n_1] else .ag [n,.int .i64 (wrap .i64 (n_1+1))]) else .bk [n,n_1])) (fun vs=>.pi vs fun n vs=>.pi vs fun n vs=>.unNil vs (.rt (.int .i64 0))) (fun vs=>.pi vs fun n vs=>.pi vs fun n_1 vs=>.unNil vs (.rt (.int .i64 n))) fun x x_1=>.fail
theorem w96(flawsp:Option Addr)(flawsn flawsc:Nat):FX X 88 #[.slice flawsp flawsn flawsc] h A (n96 flawsp flawsn flawsc):=fk [] [⟨0,[(2,.int .i64),(7,.int .i64)],[],[],[],[]⟩] [] Tryz.f88
def n98(sp:Option Addr)(sn sc:Nat)(f:Value):T:=.loop [.int .i64 0,.int .i64 0] (fun vs=>.pi vs fun n vs=>.pi vs fun n_1 vs=>.unNil vs (bif decide (n_1<(↑sn:Int)) then .need (0<=n_1/\n_1<(↑sn:Int)) (.someA sp fun a=>.li ((a.add (n_1.toNat*2)).add 0) fun n_2=>.li ((a.add (n_1.toNat*2)).add 1) fun n_3=>.callv false f #[.agg #[n_2,n_3]] fun v=>.unB v fun b=>bif b then .rn [n_1,n_1] else .ag [n,.int .i64 (wrap .i64 (n_1+1))]) else .bk [n,n_1])) (fun vs=>.pi vs fun n vs=>.pi vs fun n vs=>.unNil vs (.rt (.int .i64 (-1)))) (fun vs=>.pi vs fun n vs=>.pi vs fun n_1 vs=>.unNil vs (.rt (.int .i64 n))) fun x x_1=>.fail
theorem w98(sp:Option Addr)(sn sc:Nat)(f:Value):FX X 110 #[.slice sp sn sc,f] h A (n98 sp sn sc f):=fk [] [⟨0,[(4,.int .i64),(8,.int .i64)],[],[],[],[]⟩] [] Tryz.f110
def n99(yield:Value)(z0 z1 z2:Addr):T:=.loadP z0 fun p=>.someA p fun a=>.loadS (((a.add 0).add 0).add 5) fun p n c=>.loop [.int .i64 0] (fun vs=>.pi vs fun n_1 vs=>.unNil vs (bif decide (n_1<(↑n:Int)) then .need (0<=n_1/\n_1<(↑n:Int)) (.someA p fun a=>.li ((a.add (n_1.toNat*4)).add 0) fun n=>.li ((a.add (n_1.toNat*4)).add 1) fun n_2=>.li ((a.add (n_1.toNat*4)).add 2) fun n_3=>.loadS ((a.add (n_1.toNat*4)).add 3) fun p n_4 c=>.li z1 fun n_5=>bif n_3==n_5 then .li z2 fun n_6=>.cB 63 #[.slice p n_4 c,n_6] fun b=>bif b then .callv false yield #[.agg #[n,n_2,n_3,.slice p n_4 c]] fun v=>.unB v fun b=>bif !b then .rn [n_1] else .ag [.int .i64 (wrap .i64 (n_1+1))] else .ag [.int .i64 (wrap .i64 (n_1+1))] else .ag [.int .i64 (wrap .i64 (n_1+1))]) else .bk [n_1])) (fun vs=>.pi vs fun n vs=>.unNil vs (.rt (.tuple #[]))) (fun vs=>.pi vs fun n vs=>.unNil vs (.rt (.tuple #[]))) fun x x_1=>.fail
theorem w99(yield:Value)(z0 z1 z2:Addr):FX X 115 #[yield,.pointer (some z0),.pointer (some z1),.pointer (some z2)] h A (n99 yield z0 z1 z2):=fk [6] [⟨0,[(14,.int .i64)],[],[],[],[]⟩] [] Tryz.f115
def n101(d:Option Addr)(land item day:Int):T:=.someA d fun a=>.loadS (((a.add 0).add 0).add 6) fun p n c=>.loop [.slice none 0 0,.int .i64 0] (fun vs=>.popS vs fun a n_1 c vs=>.pi vs fun n_2 vs=>.unNil vs (bif decide (n_2<(↑n:Int)) then .need (0<=n_2/\n_2<(↑n:Int)) (.someA p fun a_1=>.li ((a_1.add (n_2.toNat*3)).add 0) fun n=>.li ((a_1.add (n_2.toNat*3)).add 1) fun n_3=>.loadS ((a_1.add (n_2.toNat*3)).add 2) fun p n_4 c_1=>bif n_3==land then bif decide (n<=day) then .cB 63 #[.slice p n_4 c_1,item] fun b=>bif b then .sem false (Instr.buildSlice 24 1 #[(0,.agg #[n,n_3,.slice p n_4 c_1])]) fun v=>.unS v fun a_2 n c_2=>.sem false (Builtin.append_ #[24,24] 24 #[.slice a n_1 c,.slice a_2 n c_2]) fun v=>.unS v fun a n c=>.ag [.slice a n c,.int .i64 (wrap .i64 (n_2+1))] else .ag [.slice a n_1 c,.int .i64 (wrap .i64 (n_2+1))] else .ag [.slice a n_1 c,.int .i64 (wrap .i64 (n_2+1))] else .ag [.slice a n_1 c,.int .i64 (wrap .i64 (n_2+1))]) else .bk [.slice a n_1 c,n_2])) (fun vs=>.popS vs fun a n c vs=>.pi vs fun n_1 vs=>.unNil vs (.rt (.slice a n c))) (fun vs=>.popS vs fun a n c vs=>.pi vs fun n vs=>.unNil vs (.rt (.slice none 0 0))) fun x x_1=>.fail
theorem w101(d:Option Addr)(land item day:Int):FX X 116 #[.pointer d,land,item,day] h A (n101 d land item day):=fk [11] [⟨0,[(9,.slice),(19,.int .i64)],[],[],[],[]⟩] [] Tryz.f116
def n102(d:Option Addr)(land item:Int)(lp:Option Addr)(ln lc:Nat):T:=.need (0<=(↑ln:Int)) (.blk (.someA d fun a=>.li (((a.add 0).add 0).add 2) fun n=>.both (.sem false (Instr.makeMap 215 none) fun v=>.unM v fun a_1=>.li (((a.add 0).add 0).add 2) fun n_1=>.ne n_1 n (.nds [.val (.pointer (some (((a.add 0).add 0).add 2))),.O ((a.add 0).add 0),.O (a.add 0)] (.someA d fun a_2=>.nq a_2 a (.nds [.val (.pointer d),.S lp ln lc,.val (.pointer d)] (.both (.cI 141 #[.pointer d,.slice lp ln lc,n] fun n=>.nds [.val (.pointer (some (((a.add 0).add 0).add 2))),.O ((a.add 0).add 0),.O (a.add 0)] (.someA d fun a_3=>.nq a_3 a (.nd (.pointer d) (.both (.sem false (Sem.bind (Instr.mapUpdate 215 (.map a_1) (.int .i64 n) (.bool true)) fun __r=>pure (.tuple #[])) fun x=>.nds [.val (.pointer (some (((a.add 0).add 0).add 2))),.O ((a.add 0).add 0),.O (a.add 0)] (.someA d fun a_4=>.nq a_4 a (.nds [.val (.pointer d),.val (.map a_1),.val (.pointer (some (((a.add 0).add 0).add 2))),.O ((a.add 0).add 0),.O (a.add 0)] (.someA d fun a_5=>.nq a_5 a (.nd (.pointer d) (.ag [.map a_1])))))) (.nds [.val (.pointer (some (((a.add 0).add 0).add 2))),.O ((a.add 0).add 0),.O (a.add 0)] (.someA d fun a_4=>.nq a_4 a (.nd (.pointer d) (.sem false (Sem.bind (Instr.mapUpdate 215 (.map a_1) (.int .i64 n) (.bool true)) fun __r=>pure (.tuple #[])) fun x=>.nds [.val (.pointer (some (((a.add 0).add 0).add 2))),.O ((a.add 0).add 0),.O (a.add 0)] (.someA d fun a_5=>.nq a_5 a (.nd (.pointer d) (.ag [.map a_1]))))))))))) (.li (((a.add 0).add 0).add 2) fun n_2=>.ne n_2 n (.nds [.val (.pointer (some (((a.add 0).add 0).add 2))),.O ((a.add 0).add 0),.O (a.add 0)] (.someA d fun a_3=>.nq a_3 a (.nds [.val (.pointer d),.S lp ln lc,.val (.pointer d)] (.cI 141 #[.pointer d,.slice lp ln lc,n] fun n=>.nds [.val (.pointer (some (((a.add 0).add 0).add 2))),.O ((a.add 0).add 0),.O (a.add 0)] (.someA d fun a_4=>.nq a_4 a (.nd (.pointer d) (.sem false (Sem.bind (Instr.mapUpdate 215 (.map a_1) (.int .i64 n) (.bool true)) fun __r=>pure (.tuple #[])) fun x=>.nds [.val (.pointer (some (((a.add 0).add 0).add 2))),.O ((a.add 0).add 0),.O (a.add 0)] (.someA d fun a_5=>.nq a_5 a (.nd (.pointer d) (.ag [.map a_1])))))))))))))))) (.both (.cI 141 #[.pointer d,.slice lp ln lc,n] fun n=>.nds [.val (.pointer (some (((a.add 0).add 0).add 2))),.O ((a.add 0).add 0),.O (a.add 0)] (.someA d fun a_1=>.nq a_1 a (.nd (.pointer d) (.both (.sem false (Instr.makeMap 215 none) fun v=>.unM v fun a_2=>.nds [.val (.pointer (some (((a.add 0).add 0).add 2))),.O ((a.add 0).add 0),.O (a.add 0)] (.someA d fun a_3=>.nq a_3 a (.nd (.pointer d) (.both (.sem false (Sem.bind (Instr.mapUpdate 215 (.map a_2) (.int .i64 n) (.bool true)) fun __r=>pure (.tuple #[])) fun x=>.nds [.val (.pointer (some (((a.add 0).add 0).add 2))),.O ((a.add 0).add 0),.O (a.add 0)] (.someA d fun a_4=>.nq a_4 a (.nds [.val (.pointer d),.val (.map a_2),.val (.pointer (some (((a.add 0).add 0).add 2))),.O ((a.add 0).add 0),.O (a.add 0)] (.someA d fun a_5=>.nq a_5 a (.nd (.pointer d) (.ag [.map a_2])))))) (.nds [.val (.pointer (some (((a.add 0).add 0).add 2))),.O ((a.add 0).add 0),.O (a.add 0)] (.someA d fun a_4=>.nq a_4 a (.nd (.pointer d) (.sem false (Sem.bind (Instr.mapUpdate 215 (.map a_2) (.int .i64 n) (.bool true)) fun __r=>pure (.tuple #[])) fun x=>.nds [.val (.pointer (some (((a.add 0).add 0).add 2))),.O ((a.add 0).add 0),.O (a.add 0)] (.someA d fun a_5=>.nq a_5 a (.nd (.pointer d) (.ag [.map a_2]))))))))))) (.nds [.val (.pointer (some (((a.add 0).add 0).add 2))),.O ((a.add 0).add 0),.O (a.add 0)] (.someA d fun a_2=>.nq a_2 a (.nd (.pointer d) (.sem false (Instr.makeMap 215 none) fun v=>.unM v fun a_3=>.nds [.val (.pointer (some (((a.add 0).add 0).add 2))),.O ((a.add 0).add 0),.O (a.add 0)] (.someA d fun a_4=>.nq a_4 a (.nd (.pointer d) (.sem false (Sem.bind (Instr.mapUpdate 215 (.map a_3) (.int .i64 n) (.bool true)) fun __r=>pure (.tuple #[])) fun x=>.nds [.val (.pointer (some (((a.add 0).add 0).add 2))),.O ((a.add 0).add 0),.O (a.add 0)] (.someA d fun a_5=>.nq a_5 a (.nd (.pointer d) (.ag [.map a_3])))))))))))))) (.li (((a.add 0).add 0).add 2) fun n_1=>.ne n_1 n (.nds [.val (.pointer (some (((a.add 0).add 0).add 2))),.O ((a.add 0).add 0),.O (a.add 0)] (.someA d fun a_1=>.nq a_1 a (.nds [.val (.pointer d),.S lp ln lc,.val (.pointer d)] (.both (.sem false (Instr.makeMap 215 none) fun v=>.unM v fun a_2=>.li (((a.add 0).add 0).add 2) fun n_2=>.ne n_2 n (.nds [.val (.pointer (some (((a.add 0).add 0).add 2))),.O ((a.add 0).add 0),.O (a.add 0)] (.someA d fun a_3=>.nq a_3 a (.nds [.val (.pointer d),.S lp ln lc,.val (.pointer d)] (.cI 141 #[.pointer d,.slice lp ln lc,n] fun n=>.nds [.val (.pointer (some (((a.add 0).add 0).add 2))),.O ((a.add 0).add 0),.O (a.add 0)] (.someA d fun a_4=>.nq a_4 a (.nd (.pointer d) (.sem false (Sem.bind (Instr.mapUpdate 215 (.map a_2) (.int .i64 n) (.bool true)) fun __r=>pure (.tuple #[])) fun x=>.nds [.val (.pointer (some (((a.add 0).add 0).add 2))),.O ((a.add 0).add 0),.O (a.add 0)] (.someA d fun a_5=>.nq a_5 a (.nd (.pointer d) (.ag [.map a_2]))))))))))) (.cI 141 #[.pointer d,.slice lp ln lc,n] fun n=>.nds [.val (.pointer (some (((a.add 0).add 0).add 2))),.O ((a.add 0).add 0),.O (a.add 0)] (.someA d fun a_2=>.nq a_2 a (.nd (.pointer d) (.sem false (Instr.makeMap 215 none) fun v=>.unM v fun a_3=>.nds [.val (.pointer (some (((a.add 0).add 0).add 2))),.O ((a.add 0).add 0),.O (a.add 0)] (.someA d fun a_4=>.nq a_4 a (.nd (.pointer d) (.sem false (Sem.bind (Instr.mapUpdate 215 (.map a_3) (.int .i64 n) (.bool true)) fun __r=>pure (.tuple #[])) fun x=>.nds [.val (.pointer (some (((a.add 0).add 0).add 2))),.O ((a.add 0).add 0),.O (a.add 0)] (.someA d fun a_5=>.nq a_5 a (.nd (.pointer d) (.ag [.map a_3]))))))))))))))))) (fun vs=>.popM vs fun a vs=>.unNil vs (.cl 83 #[.pointer d,land,item] fun v=>.each v [.map a] (fun xs vs=>.unCons xs fun v vs_1=>.unAgg v fun l=>.pi l fun n vs_2=>.pi vs_2 fun n_1 vs_3=>.pi vs_3 fun n_2 vs_4=>.popS vs_4 fun a n_3 c vs_5=>.unNil vs_5 (.unNil vs_1 (.popM vs fun a vs=>.unNil vs (.sem false (Instr.makeMap 215 none) fun v=>.unM v fun a_1=>.loop [n] (fun vs=>.pi vs fun n vs=>.unNil vs (bif decide (n<=n_1) then .cI 141 #[.pointer d,.slice lp ln lc,n] fun n_4=>.loop [.int .i64 0] (fun vs=>.pi vs fun n vs=>.unNil vs (bif decide (n<wrap .i64 (wrap .i64 (wrap .i64 (1*2^min (Int.toNat (↑ln:Int)) 64)-1)+1)) then .sem false (Instr.lookup 215 (.map a) (.int .i64 n) false) fun v=>.unB v fun b=>bif b then .sem false (Sem.bind (Instr.mapUpdate 215 (.map a_1) (.int .i64 (wrap .i64 (↑(BitVec.toNat (BitVec.ofInt 64 n ||| BitVec.ofInt 64 n_4)):Int))) (.bool true)) fun __r=>pure (.tuple #[])) fun x=>.ag [.int .i64 (wrap .i64 (n+1))] else .ag [.int .i64 (wrap .i64 (n+1))] else .bk [n])) (fun vs=>.pi vs fun n_5 vs=>.unNil vs (.ag [.int .i64 (wrap .i64 (n+1))])) (fun vs=>.pi vs fun n_5 vs=>.unNil vs (.rn [n])) fun x x_1=>.fail else .bk [n])) (fun vs=>.pi vs fun n vs=>.unNil vs (.ag [.map a_1])) (fun vs=>.pi vs fun n vs=>.unNil vs (.rn [.map a])) fun x x_1=>.fail)))) (fun vs=>.popM vs fun a vs=>.unNil vs (.sem false (Instr.lookup 215 (.map a) (.int .i64 (wrap .i64 (wrap .i64 (1*2^min (Int.toNat (↑ln:Int)) 64)-1))) false) fun v=>.unB v fun b=>.rt (.bool !b))) (fun vs=>.popM vs fun a vs=>.unNil vs (.sem false (Instr.lookup 215 (.map a) (.int .i64 (wrap .i64 (wrap .i64 (1*2^min (Int.toNat (↑ln:Int)) 64)-1))) false) fun v=>.unB v fun b=>.rt (.bool !b))) (fun vs=>.popM vs fun a vs=>.unNil vs (.rt (.bool false))) fun x x_1=>.fail)) (fun vs=>.popM vs fun a vs=>.unNil vs (.rt (.bool false))) fun x x_1=>.fail)
theorem w102(d:Option Addr)(land item:Int)(lp:Option Addr)(ln lc:Nat):FX X 117 #[.pointer d,land,item,.slice lp ln lc] h A (n102 d land item lp ln lc):=fk [4,7,9,10,11] [⟨4,[(53,.int .i64)],[4,7,9,10,11],[],[],[]⟩,⟨2,[(13,.int .i64)],[4,7,9,10,11],[],[],[]⟩,{ id:=0,slots:=[(45056,.map)],ro:=[4,7,9],outs:=[],ps:=[.agg [.int .i64,.int .i64,.int .i64,.slice]] }] [{ id:=3,slots:=[(45056,.map)],ro:=[4,7,9],outs:=[],pps:=[10] }] Tryz.f117
def n107(d:Option Addr)(lp:Option Addr)(ln lc:Nat)(day:Int):T:=.loop [.int .i64 0,.int .i64 0] (fun vs=>.pi vs fun n vs=>.pi vs fun n_1 vs=>.unNil vs (bif decide (n_1<(↑ln:Int)) then .need (0<=n_1/\n_1<(↑ln:Int)) (.someA lp fun a=>.li ((a.add (n_1.toNat*3)).add 0) fun n_2=>.li ((a.add (n_1.toNat*3)).add 1) fun n_3=>.loadS ((a.add (n_1.toNat*3)).add 2) fun p n_4 c=>.cl 46 #[.pointer d,n_2] fun v=>.unAgg v fun l=>.pi l fun n_5 vs=>.pi vs fun n_6 vs=>.unNil vs (.cB 76 #[day,n_5,n_6] fun b=>bif b then .need (0<=n_1) (.ag [.int .i64 (wrap .i64 (↑(BitVec.toNat (BitVec.ofInt 64 n ||| BitVec.ofInt 64 (wrap .i64 (1*2^min (n_1.toNat) 64)))):Int)),.int .i64 (wrap .i64 (n_1+1))]) else .ag [n,.int .i64 (wrap .i64 (n_1+1))])) else .bk [n,n_1])) (fun vs=>.pi vs fun n vs=>.pi vs fun n_1 vs=>.unNil vs (.rt (.int .i64 n))) (fun vs=>.pi vs fun n vs=>.pi vs fun n vs=>.unNil vs (.rt (.int .i64 0))) fun x x_1=>.fail
theorem w107(d:Option Addr)(lp:Option Addr)(ln lc:Nat)(day:Int):FX X 141 #[.pointer d,.slice lp ln lc,day] h A (n107 d lp ln lc day):=fk [9,10] [⟨0,[(7,.int .i64),(13,.int .i64)],[],[],[],[]⟩] [] Tryz.f141
def n126(u_0 u_1 u_2 u_3:Int)(u_4p:Option Addr)(u_4n u_4c:Nat)(u_5p:Option Addr)(u_5n u_5c:Nat)(u_6p:Option Addr)(u_6n u_6c:Nat):T:=.cB 76 #[u_0,.int .i64 0,.int .i64 6] fun b=>bif !b then .cI 78 #[true,.int .i64 1] fun n=>.rt (.int .i64 n) else .cB 76 #[u_1,.int .i64 1,.int .i64 3] fun b=>bif !b then .cI 78 #[true,.int .i64 1] fun n=>.rt (.int .i64 n) else .cB 79 #[u_2] fun b=>bif !b then .cI 78 #[true,.int .i64 1] fun n=>.rt (.int .i64 n) else .cB 76 #[u_3,.int .i64 1,.int .i64 2000] fun b=>.cI 78 #[.bool !b,.int .i64 1] fun n=>.rt (.int .i64 n)
theorem w126(u_0 u_1 u_2 u_3:Int)(u_4p:Option Addr)(u_4n u_4c:Nat)(u_5p:Option Addr)(u_5n u_5c:Nat)(u_6p:Option Addr)(u_6n u_6c:Nat):FX X 197 #[.agg #[u_0,u_1,u_2,u_3,.slice u_4p u_4n u_4c,.slice u_5p u_5n u_5c,.slice u_6p u_6n u_6c]] h A (n126 u_0 u_1 u_2 u_3 u_4p u_4n u_4c u_5p u_5n u_5c u_6p u_6n u_6c):=fk [1] [] [] Tryz.f197
def n127(u_0 u_1 u_2 u_3:Int)(u_4p:Option Addr)(u_4n u_4c:Nat)(u_5p:Option Addr)(u_5n u_5c:Nat)(u_6p:Option Addr)(u_6n u_6c:Nat):T:=.cI 201 #[.slice u_4p u_4n u_4c,.int .i64 4,.func (Fn.func 202) #[] #[]] fun n=>.rt (.int .i64 n)
theorem w127(u_0 u_1 u_2 u_3:Int)(u_4p:Option Addr)(u_4n u_4c:Nat)(u_5p:Option Addr)(u_5n u_5c:Nat)(u_6p:Option Addr)(u_6n u_6c:Nat):FX X 198 #[.agg #[u_0,u_1,u_2,u_3,.slice u_4p u_4n u_4c,.slice u_5p u_5n u_5c,.slice u_6p u_6n u_6c]] h A (n127 u_0 u_1 u_2 u_3 u_4p u_4n u_4c u_5p u_5n u_5c u_6p u_6n u_6c):=fk [1] [] [] Tryz.f198
def n128(u_0 u_1 u_2 u_3:Int)(u_4p:Option Addr)(u_4n u_4c:Nat)(u_5p:Option Addr)(u_5n u_5c:Nat)(u_6p:Option Addr)(u_6n u_6c:Nat):T:=.new 118 #[u_0,u_1,u_2,u_3,.slice u_4p u_4n u_4c,.slice u_5p u_5n u_5c,.slice u_6p u_6n u_6c] fun r=>.loadS ((Addr.add ⟨r,0,none⟩ 0).add 5) fun p n c=>.cI 204 #[.slice p n c,.int .i64 8,.func (Fn.func 205) #[] #[.pointer (some ⟨r,0,none⟩)]] fun n=>.rt (.int .i64 n)
theorem w128(u_0 u_1 u_2 u_3:Int)(u_4p:Option Addr)(u_4n u_4c:Nat)(u_5p:Option Addr)(u_5n u_5c:Nat)(u_6p:Option Addr)(u_6n u_6c:Nat):FX X 199 #[.agg #[u_0,u_1,u_2,u_3,.slice u_4p u_4n u_4c,.slice u_5p u_5n u_5c,.slice u_6p u_6n u_6c]] h A (n128 u_0 u_1 u_2 u_3 u_4p u_4n u_4c u_5p u_5n u_5c u_6p u_6n u_6c):=fk [] [] [] Tryz.f199
def n129(u_0 u_1 u_2 u_3:Int)(u_4p:Option Addr)(u_4n u_4c:Nat)(u_5p:Option Addr)(u_5n u_5c:Nat)(u_6p:Option Addr)(u_6n u_6c:Nat):T:=.new 118 #[u_0,u_1,u_2,u_3,.slice u_4p u_4n u_4c,.slice u_5p u_5n u_5c,.slice u_6p u_6n u_6c] fun r=>.loadS ((Addr.add ⟨r,0,none⟩ 0).add 6) fun p n c=>.cI 206 #[.slice p n c,.int .i64 4,.func (Fn.func 207) #[] #[.pointer (some ⟨r,0,none⟩)]] fun n=>.rt (.int .i64 n)
theorem w129(u_0 u_1 u_2 u_3:Int)(u_4p:Option Addr)(u_4n u_4c:Nat)(u_5p:Option Addr)(u_5n u_5c:Nat)(u_6p:Option Addr)(u_6n u_6c:Nat):FX X 200 #[.agg #[u_0,u_1,u_2,u_3,.slice u_4p u_4n u_4c,.slice u_5p u_5n u_5c,.slice u_6p u_6n u_6c]] h A (n129 u_0 u_1 u_2 u_3 u_4p u_4n u_4c u_5p u_5n u_5c u_6p u_6n u_6c):=fk [] [] [] Tryz.f200
def n130(lp:Option Addr)(ln lc:Nat)(most:Int)(flaw:Value):T:=bif decide ((↑ln:Int)>most) then .rt (.int .i64 2) else .loop [.int .i64 0,.int .i64 0] (fun vs=>.pi vs fun n vs=>.pi vs fun n_1 vs=>.unNil vs (bif decide (n_1<(↑ln:Int)) then .need (0<=n_1/\n_1<(↑ln:Int)) (.someA lp fun a=>.li ((a.add (n_1.toNat*2)).add 0) fun n_2=>.li ((a.add (n_1.toNat*2)).add 1) fun n_3=>.callv false flaw #[n_1,.agg #[n_2,n_3]] fun v=>.ui v fun n_4=>bif n_4 != 0 then .rn [n_4,n_1] else .ag [n,.int .i64 (wrap .i64 (n_1+1))]) else .bk [n,n_1])) (fun vs=>.pi vs fun n vs=>.pi vs fun n vs=>.unNil vs (.rt (.int .i64 0))) (fun vs=>.pi vs fun n vs=>.pi vs fun n_1 vs=>.unNil vs (.rt (.int .i64 n))) fun x x_1=>.fail
theorem w130(lp:Option Addr)(ln lc:Nat)(most:Int)(flaw:Value):FX X 201 #[.slice lp ln lc,most,flaw] h A (n130 lp ln lc most flaw):=fk [8] [⟨0,[(6,.int .i64),(16,.int .i64)],[],[],[],[]⟩] [] Tryz.f201
def n131(a0 x_0 x_1:Int):T:=.cB 203 #[.agg #[x_0,x_1]] fun b=>.cI 78 #[.bool !b,.int .i64 1] fun n=>.rt (.int .i64 n)
theorem w131(a0 x_0 x_1:Int):FX X 202 #[a0,.agg #[x_0,x_1]] h A (n131 a0 x_0 x_1):=fk [3] [] [] Tryz.f202
def n132(x_0 x_1:Int):T:=.cB 79 #[x_0] fun b=>bif b then .cB 79 #[x_1] fun b=>bif b then .rt (.bool (decide (x_0<=x_1))) else .rt (.bool false) else .rt (.bool false)
theorem w132(x_0 x_1:Int):FX X 203 #[.agg #[x_0,x_1]] h A (n132 x_0 x_1):=fk [1] [] [] Tryz.f203
def n133(lp:Option Addr)(ln lc:Nat)(most:Int)(flaw:Value):T:=bif decide ((↑ln:Int)>most) then .rt (.int .i64 2) else .loop [.int .i64 0,.int .i64 0] (fun vs=>.pi vs fun n vs=>.pi vs fun n_1 vs=>.unNil vs (bif decide (n_1<(↑ln:Int)) then .need (0<=n_1/\n_1<(↑ln:Int)) (.someA lp fun a=>.li ((a.add (n_1.toNat*4)).add 0) fun n_2=>.li ((a.add (n_1.toNat*4)).add 1) fun n_3=>.li ((a.add (n_1.toNat*4)).add 2) fun n_4=>.loadS ((a.add (n_1.toNat*4)).add 3) fun p n_5 c=>.callv false flaw #[n_1,.agg #[n_2,n_3,n_4,.slice p n_5 c]] fun v=>.ui v fun n_6=>bif n_6 != 0 then .rn [n_6,n_1] else .ag [n,.int .i64 (wrap .i64 (n_1+1))]) else .bk [n,n_1])) (fun vs=>.pi vs fun n vs=>.pi vs fun n vs=>.unNil vs (.rt (.int .i64 0))) (fun vs=>.pi vs fun n vs=>.pi vs fun n_1 vs=>.unNil vs (.rt (.int .i64 n))) fun x x_1=>.fail
theorem w133(lp:Option Addr)(ln lc:Nat)(most:Int)(flaw:Value):FX X 204 #[.slice lp ln lc,most,flaw] h A (n133 lp ln lc most flaw):=fk [8] [⟨0,[(6,.int .i64),(16,.int .i64)],[],[],[],[]⟩] [] Tryz.f204
def n134(a0 p_0 p_1 p_2:Int)(p_3p:Option Addr)(p_3n p_3c:Nat)(z0:Addr):T:=.li (z0.add 0) fun n=>.li (z0.add 1) fun n_1=>.li (z0.add 2) fun n_2=>.li (z0.add 3) fun n_3=>.loadS (z0.add 4) fun p n_4 c=>.loadS (z0.add 5) fun p_3 n_5 c_1=>.loadS (z0.add 6) fun p_4 n_6 c_2=>.li ((z0.add 0).add 0) fun n_7=>.cB 203 #[.agg #[p_0,p_1]] fun b=>.li ((z0.add 0).add 0) fun n_8=>.ne n_8 n_7 (.nds [.O ((z0.add 0).add 0),.O (z0.add 0),.S p_3p p_3n p_3c,.pp 4 3,p_2,.pp 4 2] (.li (z0.add 0) fun n_9=>.li (z0.add 1) fun n_10=>.li (z0.add 2) fun n_11=>.li (z0.add 3) fun n_12=>.loadS (z0.add 4) fun p_5 n_13 c_3=>.loadS (z0.add 5) fun p_6 n_14 c_4=>.loadS (z0.add 6) fun p_7 n_15 c_5=>.ne (.agg #[n_9,n_10,n_11,n_12,.slice p_5 n_13 c_3,.slice p_6 n_14 c_4,.slice p_7 n_15 c_5]) (.agg #[n,n_1,n_2,n_3,.slice p n_4 c,.slice p_3 n_5 c_1,.slice p_4 n_6 c_2]) (.np 4 0 (.cI 78 #[.bool !b,.int .i64 1] fun n_16=>.li ((z0.add 0).add 0) fun n_17=>.ne n_17 n_7 (.nds [.O ((z0.add 0).add 0),.O (z0.add 0),.S p_3p p_3n p_3c,.pp 4 3,p_2,.pp 4 2] (.li (z0.add 0) fun n_18=>.li (z0.add 1) fun n_19=>.li (z0.add 2) fun n_20=>.li (z0.add 3) fun n_21=>.loadS (z0.add 4) fun p_8 n_22 c_6=>.loadS (z0.add 5) fun p_9 n_23 c_7=>.loadS (z0.add 6) fun p_10 n_24 c_8=>.ne (.agg #[n_18,n_19,n_20,n_21,.slice p_8 n_22 c_6,.slice p_9 n_23 c_7,.slice p_10 n_24 c_8]) (.agg #[n,n_1,n_2,n_3,.slice p n_4 c,.slice p_3 n_5 c_1,.slice p_4 n_6 c_2]) (.np 4 0 (.cB 81 #[.agg #[n,n_1,n_2,n_3,.slice p n_4 c,.slice p_3 n_5 c_1,.slice p_4 n_6 c_2],p_2] fun b=>.li ((z0.add 0).add 0) fun n=>.ne n n_7 (.nds [.O ((z0.add 0).add 0),.O (z0.add 0),.S p_3p p_3n p_3c,.pp 4 3,.pp 4 2,.pp 4 0] (.cI 78 #[.bool !b,.int .i64 6] fun n=>.li ((z0.add 0).add 0) fun n_25=>.ne n_25 n_7 (.nds [.O ((z0.add 0).add 0),.O (z0.add 0),.S p_3p p_3n p_3c,.pp 4 3,.pp 4 2,.pp 4 0] (.cI 55 #[.slice p_3p p_3n p_3c,n_7] fun n_26=>.nds [.O ((z0.add 0).add 0),.O (z0.add 0),.pp 4 3,.pp 4 2,.pp 4 0] (.sem false (Instr.buildSlice 131 3 #[(0,.int .i64 n_16),(1,.int .i64 n),(2,.int .i64 n_26)]) fun v=>.unS v fun a n c=>.nds [.O ((z0.add 0).add 0),.O (z0.add 0),.pp 4 3,.pp 4 2,.pp 4 0] (.cI 88 #[.slice a n c] fun n=>.nds [.O ((z0.add 0).add 0),.O (z0.add 0),.pp 4 3,.pp 4 2,.pp 4 0] (.rt (.int .i64 n))))))))))))))))
theorem w134(a0 p_0 p_1 p_2:Int)(p_3p:Option Addr)(p_3n p_3c:Nat)(z0:Addr):FX X 205 #[a0,.agg #[p_0,p_1,p_2,.slice p_3p p_3n p_3c],.pointer (some z0)] h A (n134 a0 p_0 p_1 p_2 p_3p p_3n p_3c z0):=fk [4] [] [] Tryz.f205
def n135(lp:Option Addr)(ln lc:Nat)(most:Int)(flaw:Value):T:=bif decide ((↑ln:Int)>most) then .rt (.int .i64 2) else .loop [.int .i64 0,.int .i64 0] (fun vs=>.pi vs fun n vs=>.pi vs fun n_1 vs=>.unNil vs (bif decide (n_1<(↑ln:Int)) then .need (0<=n_1/\n_1<(↑ln:Int)) (.someA lp fun a=>.li ((a.add (n_1.toNat*3)).add 0) fun n_2=>.li ((a.add (n_1.toNat*3)).add 1) fun n_3=>.loadS ((a.add (n_1.toNat*3)).add 2) fun p n_4 c=>.callv false flaw #[n_1,.agg #[n_2,n_3,.slice p n_4 c]] fun v=>.ui v fun n_5=>bif n_5 != 0 then .rn [n_5,n_1] else .ag [n,.int .i64 (wrap .i64 (n_1+1))]) else .bk [n,n_1])) (fun vs=>.pi vs fun n vs=>.pi vs fun n vs=>.unNil vs (.rt (.int .i64 0))) (fun vs=>.pi vs fun n vs=>.pi vs fun n_1 vs=>.unNil vs (.rt (.int .i64 n))) fun x x_1=>.fail
theorem w135(lp:Option Addr)(ln lc:Nat)(most:Int)(flaw:Value):FX X 206 #[.slice lp ln lc,most,flaw] h A (n135 lp ln lc most flaw):=fk [8] [⟨0,[(6,.int .i64),(16,.int .i64)],[],[],[],[]⟩] [] Tryz.f206
def n136(i r_0 r_1:Int)(r_2p:Option Addr)(r_2n r_2c:Nat)(z0:Addr):T:=.li ((z0.add 0).add 2) fun n=>.li (z0.add 0) fun n_1=>.li (z0.add 1) fun n_2=>.li (z0.add 2) fun n_3=>.li (z0.add 3) fun n_4=>.loadS (z0.add 4) fun p n_5 c=>.loadS (z0.add 5) fun p_1 n_6 c_1=>.loadS (z0.add 6) fun p_2 n_7 c_2=>.li ((z0.add 0).add 0) fun n_8=>.cB 79 #[r_0] fun b=>.li ((z0.add 0).add 0) fun n_9=>.ne n_9 n_8 (.nds [.O ((z0.add 0).add 0),.O (z0.add 0),.S r_2p r_2n r_2c,.pp 4 2,r_1,.pp 4 1] (.li (z0.add 0) fun n_10=>.li (z0.add 1) fun n_11=>.li (z0.add 2) fun n_12=>.li (z0.add 3) fun n_13=>.loadS (z0.add 4) fun p_3 n_14 c_3=>.loadS (z0.add 5) fun p_4 n_15 c_4=>.loadS (z0.add 6) fun p_5 n_16 c_5=>.ne (.agg #[n_10,n_11,n_12,n_13,.slice p_3 n_14 c_3,.slice p_4 n_15 c_4,.slice p_5 n_16 c_5]) (.agg #[n_1,n_2,n_3,n_4,.slice p n_5 c,.slice p_1 n_6 c_1,.slice p_2 n_7 c_2]) (.nb (decide (r_0<n)) (.li ((z0.add 0).add 2) fun n_17=>.ne n_17 n (.nds [.O ((z0.add 0).add 2),.O (z0.add 0),r_0,.pp 4 0,.pp 4 0] (.cI 78 #[.bool !b,.int .i64 1] fun n_18=>.li ((z0.add 0).add 0) fun n_19=>.ne n_19 n_8 (.nds [.O ((z0.add 0).add 0),.O (z0.add 0),.S r_2p r_2n r_2c,.pp 4 2,r_1,.pp 4 1] (.li (z0.add 0) fun n_20=>.li (z0.add 1) fun n_21=>.li (z0.add 2) fun n_22=>.li (z0.add 3) fun n_23=>.loadS (z0.add 4) fun p_6 n_24 c_6=>.loadS (z0.add 5) fun p_7 n_25 c_7=>.loadS (z0.add 6) fun p_8 n_26 c_8=>.ne (.agg #[n_20,n_21,n_22,n_23,.slice p_6 n_24 c_6,.slice p_7 n_25 c_7,.slice p_8 n_26 c_8]) (.agg #[n_1,n_2,n_3,n_4,.slice p n_5 c,.slice p_1 n_6 c_1,.slice p_2 n_7 c_2]) (.nb (decide (r_0<n)) (.li ((z0.add 0).add 2) fun n_27=>.ne n_27 n (.nds [.O ((z0.add 0).add 2),.O (z0.add 0),r_0,.pp 4 0,.pp 4 0] (bif decide (r_0<n) then .li ((z0.add 0).add 0) fun n_28=>.ne n_28 n_8 (.nds [.O ((z0.add 0).add 0),.O (z0.add 0),.S r_2p r_2n r_2c,.pp 4 2,r_1,.pp 4 1] (.li (z0.add 0) fun n_29=>.li (z0.add 1) fun n_30=>.li (z0.add 2) fun n_31=>.li (z0.add 3) fun n_32=>.loadS (z0.add 4) fun p_9 n_33 c_9=>.loadS (z0.add 5) fun p_10 n_34 c_10=>.loadS (z0.add 6) fun p_11 n_35 c_11=>.ne (.agg #[n_29,n_30,n_31,n_32,.slice p_9 n_33 c_9,.slice p_10 n_34 c_10,.slice p_11 n_35 c_11]) (.agg #[n_1,n_2,n_3,n_4,.slice p n_5 c,.slice p_1 n_6 c_1,.slice p_2 n_7 c_2]) (.nb (decide (r_0<n)) (.li ((z0.add 0).add 2) fun n_36=>.ne n_36 n (.nds [.O ((z0.add 0).add 2),.O (z0.add 0),r_0,.pp 4 0,.pp 4 0,.U,.U,.U,.U,.U] (.li ((z0.add 0).add 0) fun n_37=>.ne n_37 n_8 (.nds [.O ((z0.add 0).add 0),.O (z0.add 0),.S r_2p r_2n r_2c,.pp 4 2,r_1,.pp 4 1] (.li (z0.add 0) fun n_38=>.li (z0.add 1) fun n_39=>.li (z0.add 2) fun n_40=>.li (z0.add 3) fun n_41=>.loadS (z0.add 4) fun p_12 n_42 c_12=>.loadS (z0.add 5) fun p_13 n_43 c_13=>.loadS (z0.add 6) fun p_14 n_44 c_14=>.ne (.agg #[n_38,n_39,n_40,n_41,.slice p_12 n_42 c_12,.slice p_13 n_43 c_13,.slice p_14 n_44 c_14]) (.agg #[n_1,n_2,n_3,n_4,.slice p n_5 c,.slice p_1 n_6 c_1,.slice p_2 n_7 c_2]) (.nb (decide (r_0<n)) (.li ((z0.add 0).add 2) fun n_45=>.ne n_45 n (.nds [.O ((z0.add 0).add 2),.O (z0.add 0),r_0,.pp 4 0,.pp 4 0,.U,.U,.U,.U,.U] (.li ((z0.add 0).add 0) fun n_46=>.ne n_46 n_8 (.nds [.O ((z0.add 0).add 0),.O (z0.add 0),.S r_2p r_2n r_2c,.pp 4 2,r_1,.pp 4 1] (.li (z0.add 0) fun n_47=>.li (z0.add 1) fun n_48=>.li (z0.add 2) fun n_49=>.li (z0.add 3) fun n_50=>.loadS (z0.add 4) fun p_15 n_51 c_15=>.loadS (z0.add 5) fun p_16 n_52 c_16=>.loadS (z0.add 6) fun p_17 n_53 c_17=>.ne (.agg #[n_47,n_48,n_49,n_50,.slice p_15 n_51 c_15,.slice p_16 n_52 c_16,.slice p_17 n_53 c_17]) (.agg #[n_1,n_2,n_3,n_4,.slice p n_5 c,.slice p_1 n_6 c_1,.slice p_2 n_7 c_2]) (.nb (decide (r_0<n)) (.li ((z0.add 0).add 2) fun n_54=>.ne n_54 n (.nds [.O ((z0.add 0).add 2),.O (z0.add 0),r_0,.pp 4 0,.pp 4 0,.U,.U,.U,.U,.U,.U] (.li ((z0.add 0).add 0) fun n_55=>.ne n_55 n_8 (.nds [.O ((z0.add 0).add 0),.O (z0.add 0),.S r_2p r_2n r_2c,.pp 4 2,r_1,.pp 4 1] (.li (z0.add 0) fun n_56=>.li (z0.add 1) fun n_57=>.li (z0.add 2) fun n_58=>.li (z0.add 3) fun n_59=>.loadS (z0.add 4) fun p_18 n_60 c_18=>.loadS (z0.add 5) fun p_19 n_61 c_19=>.loadS (z0.add 6) fun p_20 n_62 c_20=>.ne (.agg #[n_56,n_57,n_58,n_59,.slice p_18 n_60 c_18,.slice p_19 n_61 c_19,.slice p_20 n_62 c_20]) (.agg #[n_1,n_2,n_3,n_4,.slice p n_5 c,.slice p_1 n_6 c_1,.slice p_2 n_7 c_2]) (.nb (decide (r_0<n)) (.li ((z0.add 0).add 2) fun n_63=>.ne n_63 n (.nds [.O ((z0.add 0).add 2),.O (z0.add 0),r_0,.pp 4 0,.pp 4 0] (.cI 78 #[true,.int .i64 7] fun n_64=>.nds [.U,.U,.U,.U,.U,.U,.U] (.li ((z0.add 0).add 0) fun n_65=>.ne n_65 n_8 (.nds [.O ((z0.add 0).add 0),.O (z0.add 0),.S r_2p r_2n r_2c,.pp 4 2,r_1,.pp 4 1] (.li (z0.add 0) fun n_66=>.li (z0.add 1) fun n_67=>.li (z0.add 2) fun n_68=>.li (z0.add 3) fun n_69=>.loadS (z0.add 4) fun p_21 n_70 c_21=>.loadS (z0.add 5) fun p_22 n_71 c_22=>.loadS (z0.add 6) fun p_23 n_72 c_23=>.ne (.agg #[n_66,n_67,n_68,n_69,.slice p_21 n_70 c_21,.slice p_22 n_71 c_22,.slice p_23 n_72 c_23]) (.agg #[n_1,n_2,n_3,n_4,.slice p n_5 c,.slice p_1 n_6 c_1,.slice p_2 n_7 c_2]) (.nb (decide (r_0<n)) (.li ((z0.add 0).add 2) fun n_73=>.ne n_73 n (.nds [.O ((z0.add 0).add 2),.O (z0.add 0),r_0,.pp 4 0,.pp 4 0] (.cB 81 #[.agg #[n_1,n_2,n_3,n_4,.slice p n_5 c,.slice p_1 n_6 c_1,.slice p_2 n_7 c_2],r_1] fun b=>.nds [.U,.U,.U,.U,.U,.U,.U] (.li ((z0.add 0).add 0) fun n_74=>.ne n_74 n_8 (.nds [.O ((z0.add 0).add 0),.O (z0.add 0),.S r_2p r_2n r_2c,.pp 4 2,.pp 4 1,.B (decide (r_0<n))] (.li ((z0.add 0).add 2) fun n_75=>.ne n_75 n (.nds [.O ((z0.add 0).add 2),.O (z0.add 0),r_0,.pp 4 0,.pp 4 0] (.cI 78 #[.bool !b,.int .i64 6] fun n_76=>.nds [.U,.U,.U,.U,.U,.U,.U] (.li ((z0.add 0).add 0) fun n_77=>.ne n_77 n_8 (.nds [.O ((z0.add 0).add 0),.O (z0.add 0),.S r_2p r_2n r_2c,.pp 4 2,.pp 4 1,.B (decide (r_0<n))] (.li ((z0.add 0).add 2) fun n_78=>.ne n_78 n (.nds [.O ((z0.add 0).add 2),.O (z0.add 0),r_0,.pp 4 0,.pp 4 0] (.cI 55 #[.slice r_2p r_2n r_2c,n_8] fun n_79=>.nds [.U,.U,.U,.U,.U,.U,.U,.O ((z0.add 0).add 0),.O (z0.add 0),.pp 4 2,.pp 4 1,.B (decide (r_0<n))] (.li ((z0.add 0).add 2) fun n_80=>.ne n_80 n (.nds [.O ((z0.add 0).add 2),.O (z0.add 0),r_0,.pp 4 0,.pp 4 0] (.sem false (Instr.buildSlice 131 4 #[(0,.int .i64 n_18),(1,.int .i64 n_64),(2,.int .i64 n_76),(3,.int .i64 n_79)]) fun v=>.unS v fun a n_81 c=>.nds [.U,.U,.U,.U,.U,.U,.U,.O ((z0.add 0).add 0),.O (z0.add 0),.pp 4 2,.pp 4 1,.B (decide (r_0<n))] (.li ((z0.add 0).add 2) fun n_82=>.ne n_82 n (.nds [.O ((z0.add 0).add 2),.O (z0.add 0),r_0,.pp 4 0,.pp 4 0] (.cI 88 #[.slice a n_81 c] fun n_83=>.nds [.U,.U,.U,.U,.U,.U,.U,.O ((z0.add 0).add 0),.O (z0.add 0),.pp 4 2,.pp 4 1,.B (decide (r_0<n))] (.li ((z0.add 0).add 2) fun n_84=>.ne n_84 n (.nds [.O ((z0.add 0).add 2),.O (z0.add 0),r_0,.pp 4 0,.pp 4 0] (.rt (.int .i64 n_83))))))))))))))))))))))))))))))))))))))))))))))))))) else bif decide (i>0) then .loadS ((z0.add 0).add 6) fun p_9 n_28 c_9=>.need ((0<=if wrap .i64 (i-1)>0 then wrap .i64 (i-1) else 0)/\(if wrap .i64 (i-1)>0 then wrap .i64 (i-1) else 0)<(↑n_28:Int)) (.someA p_9 fun a=>.li ((a.add ((if wrap .i64 (i-1)>0 then wrap .i64 (i-1) else 0).toNat*3)).add 0) fun n_29=>.cI 78 #[.bool (decide (r_0<n_29)),.int .i64 7] fun n_30=>.nds [.B (decide (r_0<n_29)),.B (decide (r_0<n_29))] (.li ((a.add ((if wrap .i64 (i-1)>0 then wrap .i64 (i-1) else 0).toNat*3)).add 0) fun n_31=>.ne n_31 n_29 (.nd (.pointer (some ((a.add ((if wrap .i64 (i-1)>0 then wrap .i64 (i-1) else 0).toNat*3)).add 0))) (.need ((0<=if wrap .i64 (i-1)>0 then wrap .i64 (i-1) else 0)/\(if wrap .i64 (i-1)>0 then wrap .i64 (i-1) else 0)<(↑n_28:Int)) (.someA p_9 fun a_1=>.ne (.pointer (some (a_1.add ((if wrap .i64 (i-1)>0 then wrap .i64 (i-1) else 0).toNat*3)))) (.pointer (some (a.add ((if wrap .i64 (i-1)>0 then wrap .i64 (i-1) else 0).toNat*3)))) (.nds [.val (.int .i64 (if wrap .i64 (i-1)>0 then wrap .i64 (i-1) else 0)),.val (.int .i64 (wrap .i64 (i-1))),i] (.loadS ((z0.add 0).add 6) fun p_10 n_32 c_10=>.ne (.slice p_10 n_32 c_10) (.slice p_9 n_28 c_9) (.nds [.O ((z0.add 0).add 6),.O (z0.add 0),r_0,.pp 4 0,.B (decide (i>0)),i] (.nf (decide (r_0<n)) false (.li ((z0.add 0).add 0) fun n_33=>.ne n_33 n_8 (.nds [.O ((z0.add 0).add 0),.O (z0.add 0),.S r_2p r_2n r_2c,.pp 4 2,r_1,.pp 4 1] (.li (z0.add 0) fun n_34=>.li (z0.add 1) fun n_35=>.li (z0.add 2) fun n_36=>.li (z0.add 3) fun n_37=>.loadS (z0.add 4) fun p_11 n_38 c_11=>.loadS (z0.add 5) fun p_12 n_39 c_12=>.loadS (z0.add 6) fun p_13 n_40 c_13=>.ne (.agg #[n_34,n_35,n_36,n_37,.slice p_11 n_38 c_11,.slice p_12 n_39 c_12,.slice p_13 n_40 c_13]) (.agg #[n_1,n_2,n_3,n_4,.slice p n_5 c,.slice p_1 n_6 c_1,.slice p_2 n_7 c_2]) (.nb (decide (r_0<n)) (.li ((z0.add 0).add 2) fun n_41=>.ne n_41 n (.nds [.O ((z0.add 0).add 2),.O (z0.add 0),r_0,.pp 4 0,.pp 4 0] (.cB 81 #[.agg #[n_1,n_2,n_3,n_4,.slice p n_5 c,.slice p_1 n_6 c_1,.slice p_2 n_7 c_2],r_1] fun b=>.nds [.B (decide (r_0<n_29)),.B (decide (r_0<n_29))] (.li ((a.add ((if wrap .i64 (i-1)>0 then wrap .i64 (i-1) else 0).toNat*3)).add 0) fun n_42=>.ne n_42 n_29 (.nd (.pointer (some ((a.add ((if wrap .i64 (i-1)>0 then wrap .i64 (i-1) else 0).toNat*3)).add 0))) (.need ((0<=if wrap .i64 (i-1)>0 then wrap .i64 (i-1) else 0)/\(if wrap .i64 (i-1)>0 then wrap .i64 (i-1) else 0)<(↑n_28:Int)) (.someA p_9 fun a_2=>.ne (.pointer (some (a_2.add ((if wrap .i64 (i-1)>0 then wrap .i64 (i-1) else 0).toNat*3)))) (.pointer (some (a.add ((if wrap .i64 (i-1)>0 then wrap .i64 (i-1) else 0).toNat*3)))) (.nds [.val (.int .i64 (if wrap .i64 (i-1)>0 then wrap .i64 (i-1) else 0)),.val (.int .i64 (wrap .i64 (i-1))),i] (.loadS ((z0.add 0).add 6) fun p n_43 c=>.ne (.slice p n_43 c) (.slice p_9 n_28 c_9) (.nds [.O ((z0.add 0).add 6),.O (z0.add 0),r_0,.pp 4 0,.B (decide (i>0)),i] (.nf (decide (r_0<n)) false (.li ((z0.add 0).add 0) fun n_44=>.ne n_44 n_8 (.nds [.O ((z0.add 0).add 0),.O (z0.add 0),.S r_2p r_2n r_2c,.pp 4 2,.pp 4 1,.B (decide (r_0<n))] (.li ((z0.add 0).add 2) fun n_45=>.ne n_45 n (.nds [.O ((z0.add 0).add 2),.O (z0.add 0),r_0,.pp 4 0,.pp 4 0] (.cI 78 #[.bool !b,.int .i64 6] fun n_46=>.nds [.B (decide (r_0<n_29)),.B (decide (r_0<n_29))] (.li ((a.add ((if wrap .i64 (i-1)>0 then wrap .i64 (i-1) else 0).toNat*3)).add 0) fun n_47=>.ne n_47 n_29 (.nd (.pointer (some ((a.add ((if wrap .i64 (i-1)>0 then wrap .i64 (i-1) else 0).toNat*3)).add 0))) (.need ((0<=if wrap .i64 (i-1)>0 then wrap .i64 (i-1) else 0)/\(if wrap .i64 (i-1)>0 then wrap .i64 (i-1) else 0)<(↑n_28:Int)) (.someA p_9 fun a_3=>.ne (.pointer (some (a_3.add ((if wrap .i64 (i-1)>0 then wrap .i64 (i-1) else 0).toNat*3)))) (.pointer (some (a.add ((if wrap .i64 (i-1)>0 then wrap .i64 (i-1) else 0).toNat*3)))) (.nds [.val (.int .i64 (if wrap .i64 (i-1)>0 then wrap .i64 (i-1) else 0)),.val (.int .i64 (wrap .i64 (i-1))),i] (.loadS ((z0.add 0).add 6) fun p n_48 c=>.ne (.slice p n_48 c) (.slice p_9 n_28 c_9) (.nds [.O ((z0.add 0).add 6),.O (z0.add 0),r_0,.pp 4 0,.B (decide (i>0)),i] (.nf (decide (r_0<n)) false (.li ((z0.add 0).add 0) fun n_49=>.ne n_49 n_8 (.nds [.O ((z0.add 0).add 0),.O (z0.add 0),.S r_2p r_2n r_2c,.pp 4 2,.pp 4 1,.B (decide (r_0<n))] (.li ((z0.add 0).add 2) fun n_50=>.ne n_50 n (.nds [.O ((z0.add 0).add 2),.O (z0.add 0),r_0,.pp 4 0,.pp 4 0] (.cI 55 #[.slice r_2p r_2n r_2c,n_8] fun n_51=>.nds [.B (decide (r_0<n_29)),.B (decide (r_0<n_29))] (.li ((a.add ((if wrap .i64 (i-1)>0 then wrap .i64 (i-1) else 0).toNat*3)).add 0) fun n_52=>.ne n_52 n_29 (.nd (.pointer (some ((a.add ((if wrap .i64 (i-1)>0 then wrap .i64 (i-1) else 0).toNat*3)).add 0))) (.need ((0<=if wrap .i64 (i-1)>0 then wrap .i64 (i-1) else 0)/\(if wrap .i64 (i-1)>0 then wrap .i64 (i-1) else 0)<(↑n_28:Int)) (.someA p_9 fun a_4=>.ne (.pointer (some (a_4.add ((if wrap .i64 (i-1)>0 then wrap .i64 (i-1) else 0).toNat*3)))) (.pointer (some (a.add ((if wrap .i64 (i-1)>0 then wrap .i64 (i-1) else 0).toNat*3)))) (.nds [.val (.int .i64 (if wrap .i64 (i-1)>0 then wrap .i64 (i-1) else 0)),.val (.int .i64 (wrap .i64 (i-1))),i] (.loadS ((z0.add 0).add 6) fun p n_53 c=>.ne (.slice p n_53 c) (.slice p_9 n_28 c_9) (.nds [.O ((z0.add 0).add 6),.O (z0.add 0),r_0,.pp 4 0,.B (decide (i>0)),i] (.nf (decide (r_0<n)) false (.nds [.O ((z0.add 0).add 0),.O (z0.add 0),.pp 4 2,.pp 4 1,.B (decide (r_0<n))] (.li ((z0.add 0).add 2) fun n_54=>.ne n_54 n (.nds [.O ((z0.add 0).add 2),.O (z0.add 0),r_0,.pp 4 0,.pp 4 0] (.sem false (Instr.buildSlice 131 4 #[(0,.int .i64 n_18),(1,.int .i64 n_30),(2,.int .i64 n_46),(3,.int .i64 n_51)]) fun v=>.unS v fun a_5 n_55 c=>.nds [.B (decide (r_0<n_29)),.B (decide (r_0<n_29))] (.li ((a.add ((if wrap .i64 (i-1)>0 then wrap .i64 (i-1) else 0).toNat*3)).add 0) fun n_56=>.ne n_56 n_29 (.nd (.pointer (some ((a.add ((if wrap .i64 (i-1)>0 then wrap .i64 (i-1) else 0).toNat*3)).add 0))) (.need ((0<=if wrap .i64 (i-1)>0 then wrap .i64 (i-1) else 0)/\(if wrap .i64 (i-1)>0 then wrap .i64 (i-1) else 0)<(↑n_28:Int)) (.someA p_9 fun a_6=>.ne (.pointer (some (a_6.add ((if wrap .i64 (i-1)>0 then wrap .i64 (i-1) else 0).toNat*3)))) (.pointer (some (a.add ((if wrap .i64 (i-1)>0 then wrap .i64 (i-1) else 0).toNat*3)))) (.nds [.val (.int .i64 (if wrap .i64 (i-1)>0 then wrap .i64 (i-1) else 0)),.val (.int .i64 (wrap .i64 (i-1))),i] (.loadS ((z0.add 0).add 6) fun p n_57 c_14=>.ne (.slice p n_57 c_14) (.slice p_9 n_28 c_9) (.nds [.O ((z0.add 0).add 6),.O (z0.add 0),r_0,.pp 4 0,.B (decide (i>0)),i] (.nf (decide (r_0<n)) false (.nds [.O ((z0.add 0).add 0),.O (z0.add 0),.pp 4 2,.pp 4 1,.B (decide (r_0<n))] (.li ((z0.add 0).add 2) fun n_58=>.ne n_58 n (.nds [.O ((z0.add 0).add 2),.O (z0.add 0),r_0,.pp 4 0,.pp 4 0] (.cI 88 #[.slice a_5 n_55 c] fun n_59=>.nds [.B (decide (r_0<n_29)),.B (decide (r_0<n_29))] (.li ((a.add ((if wrap .i64 (i-1)>0 then wrap .i64 (i-1) else 0).toNat*3)).add 0) fun n_60=>.ne n_60 n_29 (.nd (.pointer (some ((a.add ((if wrap .i64 (i-1)>0 then wrap .i64 (i-1) else 0).toNat*3)).add 0))) (.need ((0<=if wrap .i64 (i-1)>0 then wrap .i64 (i-1) else 0)/\(if wrap .i64 (i-1)>0 then wrap .i64 (i-1) else 0)<(↑n_28:Int)) (.someA p_9 fun a_7=>.ne (.pointer (some (a_7.add ((if wrap .i64 (i-1)>0 then wrap .i64 (i-1) else 0).toNat*3)))) (.pointer (some (a.add ((if wrap .i64 (i-1)>0 then wrap .i64 (i-1) else 0).toNat*3)))) (.nds [.val (.int .i64 (if wrap .i64 (i-1)>0 then wrap .i64 (i-1) else 0)),.val (.int .i64 (wrap .i64 (i-1))),i] (.loadS ((z0.add 0).add 6) fun p n_61 c=>.ne (.slice p n_61 c) (.slice p_9 n_28 c_9) (.nds [.O ((z0.add 0).add 6),.O (z0.add 0),r_0,.pp 4 0,.B (decide (i>0)),i] (.nf (decide (r_0<n)) false (.nds [.O ((z0.add 0).add 0),.O (z0.add 0),.pp 4 2,.pp 4 1,.B (decide (r_0<n))] (.li ((z0.add 0).add 2) fun n_62=>.ne n_62 n (.nds [.O ((z0.add 0).add 2),.O (z0.add 0),r_0,.pp 4 0,.pp 4 0] (.rt (.int .i64 n_59))))))))))))))))))))))))))))))))))))))))))))))))))))))))))))))))))))))))))))))) else .nds [.U,.U,.U,.U,.U,.B (decide (i>0)),i] (.nf (decide (r_0<n)) false (.li ((z0.add 0).add 0) fun n_28=>.ne n_28 n_8 (.nds [.O ((z0.add 0).add 0),.O (z0.add 0),.S r_2p r_2n r_2c,.pp 4 2,r_1,.pp 4 1] (.li (z0.add 0) fun n_29=>.li (z0.add 1) fun n_30=>.li (z0.add 2) fun n_31=>.li (z0.add 3) fun n_32=>.loadS (z0.add 4) fun p_9 n_33 c_9=>.loadS (z0.add 5) fun p_10 n_34 c_10=>.loadS (z0.add 6) fun p_11 n_35 c_11=>.ne (.agg #[n_29,n_30,n_31,n_32,.slice p_9 n_33 c_9,.slice p_10 n_34 c_10,.slice p_11 n_35 c_11]) (.agg #[n_1,n_2,n_3,n_4,.slice p n_5 c,.slice p_1 n_6 c_1,.slice p_2 n_7 c_2]) (.nb (decide (r_0<n)) (.li ((z0.add 0).add 2) fun n_36=>.ne n_36 n (.nds [.O ((z0.add 0).add 2),.O (z0.add 0),r_0,.pp 4 0,.pp 4 0,.U,.U,.U,.U,.U,.B (decide (i>0)),i] (.nf (decide (r_0<n)) false (.li ((z0.add 0).add 0) fun n_37=>.ne n_37 n_8 (.nds [.O ((z0.add 0).add 0),.O (z0.add 0),.S r_2p r_2n r_2c,.pp 4 2,r_1,.pp 4 1] (.li (z0.add 0) fun n_38=>.li (z0.add 1) fun n_39=>.li (z0.add 2) fun n_40=>.li (z0.add 3) fun n_41=>.loadS (z0.add 4) fun p_12 n_42 c_12=>.loadS (z0.add 5) fun p_13 n_43 c_13=>.loadS (z0.add 6) fun p_14 n_44 c_14=>.ne (.agg #[n_38,n_39,n_40,n_41,.slice p_12 n_42 c_12,.slice p_13 n_43 c_13,.slice p_14 n_44 c_14]) (.agg #[n_1,n_2,n_3,n_4,.slice p n_5 c,.slice p_1 n_6 c_1,.slice p_2 n_7 c_2]) (.nb (decide (r_0<n)) (.li ((z0.add 0).add 2) fun n_45=>.ne n_45 n (.nds [.O ((z0.add 0).add 2),.O (z0.add 0),r_0,.pp 4 0,.pp 4 0,.U,.U,.U,.U,.U,.U,.B (decide (i>0)),i] (.nf (decide (r_0<n)) false (.li ((z0.add 0).add 0) fun n_46=>.ne n_46 n_8 (.nds [.O ((z0.add 0).add 0),.O (z0.add 0),.S r_2p r_2n r_2c,.pp 4 2,r_1,.pp 4 1] (.li (z0.add 0) fun n_47=>.li (z0.add 1) fun n_48=>.li (z0.add 2) fun n_49=>.li (z0.add 3) fun n_50=>.loadS (z0.add 4) fun p_15 n_51 c_15=>.loadS (z0.add 5) fun p_16 n_52 c_16=>.loadS (z0.add 6) fun p_17 n_53 c_17=>.ne (.agg #[n_47,n_48,n_49,n_50,.slice p_15 n_51 c_15,.slice p_16 n_52 c_16,.slice p_17 n_53 c_17]) (.agg #[n_1,n_2,n_3,n_4,.slice p n_5 c,.slice p_1 n_6 c_1,.slice p_2 n_7 c_2]) (.nb (decide (r_0<n)) (.li ((z0.add 0).add 2) fun n_54=>.ne n_54 n (.nds [.O ((z0.add 0).add 2),.O (z0.add 0),r_0,.pp 4 0,.pp 4 0] (.cI 78 #[false,.int .i64 7] fun n_55=>.nds [false,.U,.U,.U,.U,.U,.U,.B (decide (i>0)),i] (.nf (decide (r_0<n)) false (.li ((z0.add 0).add 0) fun n_56=>.ne n_56 n_8 (.nds [.O ((z0.add 0).add 0),.O (z0.add 0),.S r_2p r_2n r_2c,.pp 4 2,r_1,.pp 4 1] (.li (z0.add 0) fun n_57=>.li (z0.add 1) fun n_58=>.li (z0.add 2) fun n_59=>.li (z0.add 3) fun n_60=>.loadS (z0.add 4) fun p_18 n_61 c_18=>.loadS (z0.add 5) fun p_19 n_62 c_19=>.loadS (z0.add 6) fun p_20 n_63 c_20=>.ne (.agg #[n_57,n_58,n_59,n_60,.slice p_18 n_61 c_18,.slice p_19 n_62 c_19,.slice p_20 n_63 c_20]) (.agg #[n_1,n_2,n_3,n_4,.slice p n_5 c,.slice p_1 n_6 c_1,.slice p_2 n_7 c_2]) (.nb (decide (r_0<n)) (.li ((z0.add 0).add 2) fun n_64=>.ne n_64 n (.nds [.O ((z0.add 0).add 2),.O (z0.add 0),r_0,.pp 4 0,.pp 4 0] (.cB 81 #[.agg #[n_1,n_2,n_3,n_4,.slice p n_5 c,.slice p_1 n_6 c_1,.slice p_2 n_7 c_2],r_1] fun b=>.nds [false,.U,.U,.U,.U,.U,.U,.B (decide (i>0)),i] (.nf (decide (r_0<n)) false (.li ((z0.add 0).add 0) fun n_65=>.ne n_65 n_8 (.nds [.O ((z0.add 0).add 0),.O (z0.add 0),.S r_2p r_2n r_2c,.pp 4 2,.pp 4 1,.B (decide (r_0<n))] (.li ((z0.add 0).add 2) fun n_66=>.ne n_66 n (.nds [.O ((z0.add 0).add 2),.O (z0.add 0),r_0,.pp 4 0,.pp 4 0] (.cI 78 #[.bool !b,.int .i64 6] fun n_67=>.nds [false,.U,.U,.U,.U,.U,.U,.B (decide (i>0)),i] (.nf (decide (r_0<n)) false (.li ((z0.add 0).add 0) fun n_68=>.ne n_68 n_8 (.nds [.O ((z0.add 0).add 0),.O (z0.add 0),.S r_2p r_2n r_2c,.pp 4 2,.pp 4 1,.B (decide (r_0<n))] (.li ((z0.add 0).add 2) fun n_69=>.ne n_69 n (.nds [.O ((z0.add 0).add 2),.O (z0.add 0),r_0,.pp 4 0,.pp 4 0] (.cI 55 #[.slice r_2p r_2n r_2c,n_8] fun n_70=>.nds [false,.U,.U,.U,.U,.U,.U,.B (decide (i>0)),i] (.nf (decide (r_0<n)) false (.nds [.O ((z0.add 0).add 0),.O (z0.add 0),.pp 4 2,.pp 4 1,.B (decide (r_0<n))] (.li ((z0.add 0).add 2) fun n_71=>.ne n_71 n (.nds [.O ((z0.add 0).add 2),.O (z0.add 0),r_0,.pp 4 0,.pp 4 0] (.sem false (Instr.buildSlice 131 4 #[(0,.int .i64 n_18),(1,.int .i64 n_55),(2,.int .i64 n_67),(3,.int .i64 n_70)]) fun v=>.unS v fun a n_72 c=>.nds [false,.U,.U,.U,.U,.U,.U,.B (decide (i>0)),i] (.nf (decide (r_0<n)) false (.nds [.O ((z0.add 0).add 0),.O (z0.add 0),.pp 4 2,.pp 4 1,.B (decide (r_0<n))] (.li ((z0.add 0).add 2) fun n_73=>.ne n_73 n (.nds [.O ((z0.add 0).add 2),.O (z0.add 0),r_0,.pp 4 0,.pp 4 0] (.cI 88 #[.slice a n_72 c] fun n_74=>.nds [false,.U,.U,.U,.U,.U,.U,.B (decide (i>0)),i] (.nf (decide (r_0<n)) false (.nds [.O ((z0.add 0).add 0),.O (z0.add 0),.pp 4 2,.pp 4 1,.B (decide (r_0<n))] (.li ((z0.add 0).add 2) fun n_75=>.ne n_75 n (.nds [.O ((z0.add 0).add 2),.O (z0.add 0),r_0,.pp 4 0,.pp 4 0] (.rt (.int .i64 n_74))))))))))))))))))))))))))))))))))))))))))))))))))))))))))))))))))))))
theorem w136(i r_0 r_1:Int)(r_2p:Option Addr)(r_2n r_2c:Nat)(z0:Addr):FX X 207 #[i,.agg #[r_0,r_1,.slice r_2p r_2n r_2c],.pointer (some z0)] h A (n136 i r_0 r_1 r_2p r_2n r_2c z0):=fk [4] [] [] Tryz.f207
end
section
attribute [local irreducible] T.wp CV FWK
theorem c81{h:LH}(n a b:Int):Pu Tryz.prog 76 #[n,a,b] h (.bool (isIn n a b)):=by
 refine w81 _ _ _ X0_ok ?_;unfold n81;refine t_if (fun e=>?_) (fun e=>?_)<;>refine t_ret ⟨?_,rfl⟩<;>simp[isIn,e]
theorem c83{h:LH}(b:Bool)(n:Int):Pu Tryz.prog 78 #[.bool b,n] h (.int .i64 (if b then n else 0)):=by
 refine w83 _ _ X0_ok ?_;unfold n83;refine t_cond (fun e=>?_) (fun e=>?_)<;>refine t_ret ⟨?_,rfl⟩<;>simp[e]
theorem c84{h:LH}(n:Int):Pu Tryz.prog 79 #[n] h (.bool (isIn n 0 2000)):=by
 refine w84 _ X0_ok ?_;unfold n84;refine t_pu (c81 _ _ _) ?_;refine gZ ?_;exact t_ret ⟨rfl,rfl⟩
theorem c132{h:LH}(a b:Int):Pu Tryz.prog 203 #[.agg #[a,b]] h (.bool (isSpan ⟨a,b⟩)):=by
 refine w132 _ _ X0_ok ?_;unfold n132;refine t_pu (c84 _) ?_;refine yI (fun e=>?_) (fun e=>?_)
 ·refine t_pu (c84 _) ?_;refine gZ ?_;refine t_cond (fun e'=>?_) (fun e'=>?_)<;>refine t_ret ⟨?_,rfl⟩<;>simp[isSpan,isDay,e,e']
 ·refine t_ret ⟨?_,rfl⟩;simp[isSpan,isDay,e]
theorem c96{h:LH}{p:Option Addr}{n c:Nat}{l:List Int}(hl:Sl IntE 1 h.get p n l):Pu Tryz.prog 88 #[.slice p n c] h (.int .i64 (firstF (fun _ x=>x) 0 l)):=by
 refine w96 _ _ _ X0_ok ?_;unfold n96;have hn:=hl.1;have hb:=hl.2.1;refine t_loop (fun m vs h'=>h'=h/\∃ i:Nat,vs=[.int .i64 0,.int .i64 i]/\i<=n/\m=n-i/\firstF (fun _ x=>x) 0 l=firstF (fun _ x=>x) i (l.drop i)) ⟨rfl,0,rfl,Nat.zero_le _,rfl,rfl⟩ ?_;rintro Y m vs _ hY ⟨rfl,i,rfl,hi,rfl,hc⟩;refine yJ (fun e1=>?_) (fun e1=>?_)
 ·obtain⟨x,a,hx,ha,e2⟩:=hl.at (i:=i) (by omega);unfold IntE at e2;refine gZ ?_;rw[drop_of hx]at hc;refine t_cond (fun e3=>?_) (fun e3=>?_)
  ·refine gZ ?_;refine t_ret ⟨?_,rfl⟩;rw[hc,firstF,if_pos (by simpa using e3)]
  ·refine t_again (hY (n-(i+1)) _ _ (by omega) ⟨rfl,i+1,?_,by omega,rfl,?_⟩)
   ·rw[wrap_id (by omega) (by omega)];rfl
   ·rw[hc,firstF,if_neg (by simpa using e3)]
 ·refine gZ ?_;refine t_ret ⟨?_,rfl⟩;rw[hc,List.drop_eq_nil_of_le (by omega)];rfl
theorem c94{h:LH}{p:Option Addr}{n c:Nat}{l:List Int}{most:Int}{flaw:Value}{g:Nat->Int->Int}(hl:Sl IntE 1 h.get p n l)(hf:∀ (i:Nat) x h',h.le h'->l[i]?=some x->∀ v,v=.int .i64 x->CV X0 Tryz.prog flaw #[.int .i64 i,v] h' fun r h''=>h'.le h''/\r=.int .i64 (g i x)) :
  Gr Tryz.prog 86 #[.slice p n c,most,flaw] h fun r _=>r=.int .i64 (eachF most g l):=by
 refine w94 _ _ _ _ _ X0_ok ?_;unfold n94;have hn:=hl.1;have hb:=hl.2.1;refine t_if (fun e0=>?_) (fun e0=>?_)
 ·refine t_ret ⟨LH.le_refl _,?_⟩;rw[eachF,if_pos (by omega)]
 refine t_loop (fun m vs h'=>h.le h'/\∃ i:Nat,vs=[.int .i64 0,.int .i64 i]/\i<=n/\m=n-i/\firstF g 0 l=firstF g i (l.drop i)) ⟨LH.le_refl _,0,rfl,Nat.zero_le _,rfl,rfl⟩ ?_;rintro Y m vs h₁ hY ⟨hle,i,rfl,hi,rfl,hc⟩;refine yJ (fun e1=>?_) (fun e1=>?_)
 ·obtain⟨x,a,hx,ha,e2⟩:=(hl.le IntE.grow hle.1).at (i:=i) (by omega);unfold IntE at e2;refine gZ ?_;refine t_callv (hf i x h₁ hle hx _ rfl) ?_;rintro _ h₂ ⟨hle2,rfl⟩;refine gZ ?_;rw[drop_of hx]at hc;refine t_cond (fun e3=>?_) (fun e3=>?_)
  ·refine gZ ?_;refine t_ret ⟨LH.le_trans hle hle2,?_⟩;rw[eachF,if_neg (by omega),hc,firstF,if_pos (by simpa using e3)]
  ·refine t_again (hY (n-(i+1)) _ _ (by omega) ⟨LH.le_trans hle hle2,i+1,?_,by omega,rfl,?_⟩)
   ·rw[wrap_id (by omega) (by omega)];rfl
   ·rw[hc,firstF,if_neg (by simpa using e3)]
 ·refine gZ ?_;refine t_ret ⟨hle,?_⟩;rw[eachF,if_neg (by omega),hc,List.drop_eq_nil_of_le (by omega)];rfl
theorem c130{h:LH}{p:Option Addr}{n c:Nat}{l:List Span}{most:Int}{flaw:Value}{g:Nat->Span->Int}(hl:Sl SpanE 2 h.get p n l)(hf:∀ (i:Nat) x h',h.le h'->l[i]?=some x->∀ v,v=.agg #[.int .i64 x.first,.int .i64 x.last]->CV X0 Tryz.prog flaw #[.int .i64 i,v] h' fun r h''=>h'.le h''/\r=.int .i64 (g i x)) :
  Gr Tryz.prog 201 #[.slice p n c,most,flaw] h fun r _=>r=.int .i64 (eachF most g l):=by
 refine w130 _ _ _ _ _ X0_ok ?_;unfold n130;have hn:=hl.1;have hb:=hl.2.1;refine t_if (fun e0=>?_) (fun e0=>?_)
 ·refine t_ret ⟨LH.le_refl _,?_⟩;rw[eachF,if_pos (by omega)]
 refine t_loop (fun m vs h'=>h.le h'/\∃ i:Nat,vs=[.int .i64 0,.int .i64 i]/\i<=n/\m=n-i/\firstF g 0 l=firstF g i (l.drop i)) ⟨LH.le_refl _,0,rfl,Nat.zero_le _,rfl,rfl⟩ ?_;rintro Y m vs h₁ hY ⟨hle,i,rfl,hi,rfl,hc⟩;refine yJ (fun e1=>?_) (fun e1=>?_)
 ·obtain⟨x,a,hx,ha,e2⟩:=(hl.le SpanE.grow hle.1).at (i:=i) (by omega);obtain⟨e2,e4⟩:=e2;refine gZ ?_;refine t_callv (hf i x h₁ hle hx _ rfl) ?_;rintro _ h₂ ⟨hle2,rfl⟩;refine gZ ?_;rw[drop_of hx]at hc;refine t_cond (fun e3=>?_) (fun e3=>?_)
  ·refine gZ ?_;refine t_ret ⟨LH.le_trans hle hle2,?_⟩;rw[eachF,if_neg (by omega),hc,firstF,if_pos (by simpa using e3)]
  ·refine t_again (hY (n-(i+1)) _ _ (by omega) ⟨LH.le_trans hle hle2,i+1,?_,by omega,rfl,?_⟩)
   ·rw[wrap_id (by omega) (by omega)];rfl
   ·rw[hc,firstF,if_neg (by simpa using e3)]
 ·refine gZ ?_;refine t_ret ⟨hle,?_⟩;rw[eachF,if_neg (by omega),hc,List.drop_eq_nil_of_le (by omega)];rfl
theorem c133{h:LH}{p:Option Addr}{n c:Nat}{l:List Paper}{most:Int}{flaw:Value}{g:Nat->Paper->Int}(hl:Sl PaperE 4 h.get p n l)(hf:∀ (i:Nat) x h',h.le h'->l[i]?=some x->∀ v,(∃ q m d,v=.agg #[.int .i64 x.days.first,.int .i64 x.days.last,.int .i64 x.land,.slice q m d]/\Sl IntE 1 h'.get q m x.items)->CV X0 Tryz.prog flaw #[.int .i64 i,v] h' fun r h''=>h'.le h''/\r=.int .i64 (g i x)) :
  Gr Tryz.prog 204 #[.slice p n c,most,flaw] h fun r _=>r=.int .i64 (eachF most g l):=by
 refine w133 _ _ _ _ _ X0_ok ?_;unfold n133;have hn:=hl.1;have hb:=hl.2.1;refine t_if (fun e0=>?_) (fun e0=>?_)
 ·refine t_ret ⟨LH.le_refl _,?_⟩;rw[eachF,if_pos (by omega)]
 refine t_loop (fun m vs h'=>h.le h'/\∃ i:Nat,vs=[.int .i64 0,.int .i64 i]/\i<=n/\m=n-i/\firstF g 0 l=firstF g i (l.drop i)) ⟨LH.le_refl _,0,rfl,Nat.zero_le _,rfl,rfl⟩ ?_;rintro Y m vs h₁ hY ⟨hle,i,rfl,hi,rfl,hc⟩;refine yJ (fun e1=>?_) (fun e1=>?_)
 ·obtain⟨x,a,hx,ha,e2⟩:=(hl.le PaperE.grow hle.1).at (i:=i) (by omega);obtain⟨e2,e4,e5,q,m,d,e7,e8⟩:=e2;refine gZ ?_;refine t_callv (hf i x h₁ hle hx _ ⟨_,_,_,rfl,e8⟩) ?_;rintro _ h₂ ⟨hle2,rfl⟩;refine gZ ?_;rw[drop_of hx]at hc;refine t_cond (fun e3=>?_) (fun e3=>?_)
  ·refine gZ ?_;refine t_ret ⟨LH.le_trans hle hle2,?_⟩;rw[eachF,if_neg (by omega),hc,firstF,if_pos (by simpa using e3)]
  ·refine t_again (hY (n-(i+1)) _ _ (by omega) ⟨LH.le_trans hle hle2,i+1,?_,by omega,rfl,?_⟩)
   ·rw[wrap_id (by omega) (by omega)];rfl
   ·rw[hc,firstF,if_neg (by simpa using e3)]
 ·refine gZ ?_;refine t_ret ⟨hle,?_⟩;rw[eachF,if_neg (by omega),hc,List.drop_eq_nil_of_le (by omega)];rfl
theorem c135{h:LH}{p:Option Addr}{n c:Nat}{l:List Request}{most:Int}{flaw:Value}{g:Nat->Request->Int}(hl:Sl RequestE 3 h.get p n l)(hf:∀ (i:Nat) x h',h.le h'->l[i]?=some x->∀ v,(∃ q m d,v=.agg #[.int .i64 x.day,.int .i64 x.land,.slice q m d]/\Sl IntE 1 h'.get q m x.items)->CV X0 Tryz.prog flaw #[.int .i64 i,v] h' fun r h''=>h'.le h''/\r=.int .i64 (g i x)) :
  Gr Tryz.prog 206 #[.slice p n c,most,flaw] h fun r _=>r=.int .i64 (eachF most g l):=by
 refine w135 _ _ _ _ _ X0_ok ?_;unfold n135;have hn:=hl.1;have hb:=hl.2.1;refine t_if (fun e0=>?_) (fun e0=>?_)
 ·refine t_ret ⟨LH.le_refl _,?_⟩;rw[eachF,if_pos (by omega)]
 refine t_loop (fun m vs h'=>h.le h'/\∃ i:Nat,vs=[.int .i64 0,.int .i64 i]/\i<=n/\m=n-i/\firstF g 0 l=firstF g i (l.drop i)) ⟨LH.le_refl _,0,rfl,Nat.zero_le _,rfl,rfl⟩ ?_;rintro Y m vs h₁ hY ⟨hle,i,rfl,hi,rfl,hc⟩;refine yJ (fun e1=>?_) (fun e1=>?_)
 ·obtain⟨x,a,hx,ha,e2⟩:=(hl.le RequestE.grow hle.1).at (i:=i) (by omega);obtain⟨e2,e4,q,m,d,e7,e8⟩:=e2;refine gZ ?_;refine t_callv (hf i x h₁ hle hx _ ⟨_,_,_,rfl,e8⟩) ?_;rintro _ h₂ ⟨hle2,rfl⟩;refine gZ ?_;rw[drop_of hx]at hc;refine t_cond (fun e3=>?_) (fun e3=>?_)
  ·refine gZ ?_;refine t_ret ⟨LH.le_trans hle hle2,?_⟩;rw[eachF,if_neg (by omega),hc,firstF,if_pos (by simpa using e3)]
  ·refine t_again (hY (n-(i+1)) _ _ (by omega) ⟨LH.le_trans hle hle2,i+1,?_,by omega,rfl,?_⟩)
   ·rw[wrap_id (by omega) (by omega)];rfl
   ·rw[hc,firstF,if_neg (by simpa using e3)]
 ·refine gZ ?_;refine t_ret ⟨hle,?_⟩;rw[eachF,if_neg (by omega),hc,List.drop_eq_nil_of_le (by omega)];rfl
theorem flaws2{h:LH}{X:XP}{Q:Leaf->LH->Prop}{k:Value->T}{a b:Int}(hk:∀ r h',h.le h'->Sl IntE 1 h'.get (some ⟨r,0,none⟩) 2 [a,b]->(k (.slice (some ⟨r,0,none⟩) 2 2)).wp X Tryz.prog Q h'):(T.sem false (Instr.buildSlice 131 2 #[(0,.int .i64 a),(1,.int .i64 b)]) k).wp X Tryz.prog Q h:=by
 refine t_build und134 inf31 (by decide) (by decide) (cells:=#[.int .i64 a,.int .i64 b]) (by kernel_rfl) fun r hr=>?_;refine hk r _ (LH.upd_le hr) ⟨rfl,by show 2<_;omega,?_⟩;intro i x hx;refine⟨_,rfl,?_⟩;show Cells.cell? _ _=_;rw[add_plain,add_plain];refine cell_upd ?_
 match i,hx with
 | 0,hx=>simp at hx;subst hx;rfl
 | 1,hx=>simp at hx;subst hx;rfl
 | i+2,hx=>simp at hx
theorem flaws3{h:LH}{X:XP}{Q:Leaf->LH->Prop}{k:Value->T}{a b d:Int}(hk:∀ r h',h.le h'->Sl IntE 1 h'.get (some ⟨r,0,none⟩) 3 [a,b,d]->(k (.slice (some ⟨r,0,none⟩) 3 3)).wp X Tryz.prog Q h'):(T.sem false (Instr.buildSlice 131 3 #[(0,.int .i64 a),(1,.int .i64 b),(2,.int .i64 d)]) k).wp X Tryz.prog Q h:=by
 refine t_build und134 inf31 (by decide) (by decide) (cells:=#[.int .i64 a,.int .i64 b,.int .i64 d]) (by kernel_rfl) fun r hr=>?_;refine hk r _ (LH.upd_le hr) ⟨rfl,by show 3<_;omega,?_⟩;intro i x hx;refine⟨_,rfl,?_⟩;show Cells.cell? _ _=_;rw[add_plain,add_plain];refine cell_upd ?_
 match i,hx with
 | 0,hx=>simp at hx;subst hx;rfl
 | 1,hx=>simp at hx;subst hx;rfl
 | 2,hx=>simp at hx;subst hx;rfl
 | i+3,hx=>simp at hx
theorem flaws4{h:LH}{X:XP}{Q:Leaf->LH->Prop}{k:Value->T}{a b d e:Int}(hk:∀ r h',h.le h'->Sl IntE 1 h'.get (some ⟨r,0,none⟩) 4 [a,b,d,e]->(k (.slice (some ⟨r,0,none⟩) 4 4)).wp X Tryz.prog Q h'):(T.sem false (Instr.buildSlice 131 4 #[(0,.int .i64 a),(1,.int .i64 b),(2,.int .i64 d),(3,.int .i64 e)]) k).wp X Tryz.prog Q h:=by
 refine t_build und134 inf31 (by decide) (by decide) (cells:=#[.int .i64 a,.int .i64 b,.int .i64 d,.int .i64 e]) (by kernel_rfl) fun r hr=>?_;refine hk r _ (LH.upd_le hr) ⟨rfl,by show 4<_;omega,?_⟩;intro i x hx;refine⟨_,rfl,?_⟩;show Cells.cell? _ _=_;rw[add_plain,add_plain];refine cell_upd ?_
 match i,hx with
 | 0,hx=>simp at hx;subst hx;rfl
 | 1,hx=>simp at hx;subst hx;rfl
 | 2,hx=>simp at hx;subst hx;rfl
 | 3,hx=>simp at hx;subst hx;rfl
 | i+4,hx=>simp at hx
theorem c95{h:LH}{z0 z1:Addr}{below:Int}{p:Option Addr}{m c:Nat}{l:List Int}(h0:h.get.cell? z0=some (.int .i64 below))(h1:h.get.cell? z1=some (.slice p m c))(hl:Sl IntE 1 h.get p m l)(hb:IsI (below-1))(i:Nat)(x:Int)(hx:l[i]?=some x) :
  Gr Tryz.prog 87 #[.int .i64 i,x,.pointer (some z0),.pointer (some z1)] h fun r _=>r=.int .i64 (riseF l below i x):=by
 refine w95 _ _ _ _ X0_ok ?_;unfold n95;have hi:i<l.length:=(List.getElem?_eq_some_iff.1 hx).1;have hlen:=hl.2.1;refine gZ ?_;rw[wrap_id hb.1 hb.2];refine t_pu (c81 _ _ _) ?_;refine gZ ?_;refine t_pu (c83 _ _) ?_;refine yJ (fun e1=>?_) (fun e1=>?_)
 ·rw[wrap_id (by omega) (by omega)];have e2:(if (i:Int)-1>0 then (i:Int)-1 else 0)=((i-1:Nat):Int):=by split<;>omega
  rw[e2];obtain⟨y,a,hy,ha,e3⟩:=hl.at (i:=i-1) (by have:=hl.1;omega);unfold IntE at e3;have:=hl.1;refine gZ ?_;refine t_pu (c83 _ _) ?_;refine gZ ?_;refine flaws2 fun r h' hle hs=>?_;refine gZ ?_;refine t_pu (c96 hs) ?_;refine gZ ?_;refine t_ret ⟨hle,?_⟩;simp[firstF,riseF,hy,show 0<i by omega];split<;>simp_all
 ·refine t_pu (c83 _ _) ?_;refine gZ ?_;refine flaws2 fun r h' hle hs=>?_;refine gZ ?_;refine t_pu (c96 hs) ?_;refine gZ ?_;refine t_ret ⟨hle,?_⟩;simp[firstF,riseF,show ¬ 0<i by omega]
theorem c70{h:LH}{below:Int}{p:Option Addr}{n c:Nat}{l:List Int}(hl:Sl IntE 1 h.get p n l)(hb:IsI (below-1)):Gr Tryz.prog 55 #[.slice p n c,below] h fun r _=>r=.int .i64 (risesF l below):=by
 refine w70 _ _ _ _ X0_ok ?_;unfold n70;refine t_new fun r hr=>?_;refine t_new fun r1 hr1=>?_;have le1:h.le { h with get:=h.get.upd r (true,.cells #[.slice p n c] 29 (0,0)) }:=LH.upd_le hr;have le2:=LH.upd_le (x:=(true,.cells #[.int .i64 below] 3 (0,0))) hr1;have f0:Cells.cell? (h.get.upd r (true,.cells #[.slice p n c] 29 (0,0))) ⟨r,0,none⟩=some (.slice p n c):=cell_upd rfl;have f1:Cells.cell? ((h.get.upd r (true,.cells #[.slice p n c] 29 (0,0))).upd r1 (true,.cells #[.int .i64 below] 3 (0,0))) ⟨r1,0,none⟩=some (.int .i64 below):=cell_upd rfl;have f2:=Cells.cell?_le le2.1 f0;refine gL1 f2 ?_;refine gL1 f2 ?_;have hl2:=hl.le IntE.grow (LH.le_trans le1 le2).1;refine t_gr (c94 (g:=riseF l below) hl2 ?_) ?_
 ·rintro i x h' hle hx _ rfl;exact cv_fw X0_ok (by rfl) (c95 (Cells.cell?_le hle.1 f1) (Cells.cell?_le hle.1 f2) (hl2.le IntE.grow hle.1) hb i x hx)
 ·rintro _ h' hle rfl;refine gZ ?_;refine t_ret ⟨LH.le_trans (LH.le_trans le1 le2) hle,?_⟩;rw[risesF,eachF,if_neg (by have:=hl.1;omega)]
theorem c126{h:LH}{f:FileC}{u:UseFile}:Pu Tryz.prog 197 #[fileV f u] h (.int .i64 (numbersF u)):=by
 refine w126 _ _ _ _ _ _ _ _ _ _ _ _ _ X0_ok ?_;unfold n126;refine t_pu (c81 _ _ _) ?_;refine yI (fun e1=>?_) (fun e1=>?_)
 ·refine t_pu (c83 _ _) ?_;refine gZ ?_;refine t_ret ⟨?_,rfl⟩;simp at e1;simp[numbersF,e1]
 refine t_pu (c81 _ _ _) ?_;refine yI (fun e2=>?_) (fun e2=>?_)
 ·refine t_pu (c83 _ _) ?_;refine gZ ?_;refine t_ret ⟨?_,rfl⟩;simp at e2;simp[numbersF,e2]
 refine t_pu (c84 _) ?_;refine yI (fun e3=>?_) (fun e3=>?_)
 ·refine t_pu (c83 _ _) ?_;refine gZ ?_;refine t_ret ⟨?_,rfl⟩;simp at e3;simp[numbersF,isDay,e3]
 refine t_pu (c81 _ _ _) ?_;refine gZ ?_;refine t_pu (c83 _ _) ?_;refine gZ ?_;refine t_ret ⟨?_,rfl⟩;simp at e1 e2 e3;simp[numbersF,isDay,e1,e2,e3];split<;>simp_all
theorem c131{h:LH}(i:Int)(a b:Int):Pu Tryz.prog 202 #[i,.agg #[a,b]] h (.int .i64 (if isSpan ⟨a,b⟩ then 0 else 1)):=by
 refine w131 _ _ _ X0_ok ?_;unfold n131;refine t_pu (c132 _ _) ?_;refine gZ ?_;refine t_pu (c83 _ _) ?_;refine gZ ?_;refine t_ret ⟨?_,rfl⟩;cases isSpan ⟨a,b⟩<;>rfl
theorem pu_gr{f:FuncId}{args:Array Value}{h:LH}{v:Value}(c:Pu Tryz.prog f args h v):Gr Tryz.prog f args h fun r _=>r=v :=
 FW.mono c (by rintro _ _ ⟨rfl,rfl⟩;exact⟨LH.le_refl _,rfl⟩)
theorem c127{h:LH}{f:FileC}{u:UseFile}(hu:FileR h.get f u):Gr Tryz.prog 198 #[fileV f u] h fun r _=>r=.int .i64 (excusesF u):=by
 refine w127 _ _ _ _ _ _ _ _ _ _ _ _ _ X0_ok ?_;unfold n127;refine t_gr (c130 (g:=fun _ x=>if isSpan x then 0 else 1) hu.excuses ?_) ?_
 ·rintro i x h' hle hx _ rfl;exact cv_fw X0_ok (by rfl) (pu_gr (c131 _ _ _))
 ·rintro _ h' hle rfl;refine gZ ?_;exact t_ret ⟨hle,rfl⟩
theorem c86{h:LH}{f:FileC}{u:UseFile}(hl:IsI (u.lands-1))(n:Int):Pu Tryz.prog 81 #[fileV f u,n] h (.bool (isIn n 0 (u.lands-1))):=by
 refine w86 _ _ _ _ _ _ _ _ _ _ _ _ _ _ X0_ok ?_;unfold n86;rw[wrap_id hl.1 hl.2];refine t_pu (c81 _ _ _) ?_;refine gZ ?_;exact t_ret ⟨rfl,rfl⟩
theorem c134{h:LH}{z0:Addr}{f:FileC}{u:UseFile}(hat:FileAt h.get z0 f u)(hl:IsI (u.lands-1))(hi:IsI (u.items-1))(i:Int){p:Paper}{q:Option Addr}{m c:Nat}(hs:Sl IntE 1 h.get q m p.items) :
  Gr Tryz.prog 205 #[i,.agg #[.int .i64 p.days.first,.int .i64 p.days.last,.int .i64 p.land,.slice q m c],.pointer (some z0)] h fun r _=>r=.int .i64 (paperF u p):=by
 refine w134 _ _ _ _ _ _ _ _ X0_ok ?_;unfold n134;obtain⟨f0,f1,f2,f3,f4,f5,f6⟩:=hat;refine gZ ?_;refine t_pu (c132 _ _) ?_;refine gZ ?_;refine t_pu (c83 _ _) ?_;refine gZ ?_;refine t_pu (c86 (f:=f) (u:=u) hl _) ?_;refine gZ ?_;refine t_pu (c83 _ _) ?_;refine gZ ?_;refine t_gr (c70 hs hi) ?_;rintro _ h' hle rfl;refine gZ ?_;refine flaws3 fun r h2 hle2 hs=>?_;refine gZ ?_;refine t_pu (c96 hs) ?_;refine gZ ?_;refine t_ret ⟨LH.le_trans hle hle2,?_⟩;simp[firstF,paperF];split<;>simp_all;split<;>simp_all
end
section
attribute [local irreducible] T.wp CV FWK
theorem fileAt_new{h:Cells}{r:Nat}{f:FileC}{u:UseFile}{T:TypeId}:FileAt (h.upd r (true,.cells #[.int .i64 u.items,.int .i64 u.lands,.int .i64 u.from_,.int .i64 u.idle,.slice f.p4 f.n4 f.c4,.slice f.p5 f.n5 f.c5,.slice f.p6 f.n6 f.c6] T (0,0))) ⟨r,0,none⟩ f u:=by
 constructor<;>(rw[add_plain];exact cell_upd rfl)
theorem c128{h:LH}{f:FileC}{u:UseFile}(hu:FileR h.get f u)(hl:IsI (u.lands-1))(hi:IsI (u.items-1)):Gr Tryz.prog 199 #[fileV f u] h fun r _=>r=.int .i64 (papersF u):=by
 refine w128 _ _ _ _ _ _ _ _ _ _ _ _ _ X0_ok ?_;unfold n128;refine t_new fun r hr=>?_;have le1:h.le _:=LH.upd_le (x:=(true,.cells #[.int .i64 u.items,.int .i64 u.lands,.int .i64 u.from_,.int .i64 u.idle,.slice f.p4 f.n4 f.c4,.slice f.p5 f.n5 f.c5,.slice f.p6 f.n6 f.c6] 118 (0,0))) hr;have hat:=fileAt_new (h:=h.get) (r:=r) (f:=f) (u:=u) (T:=118);refine gL1 hat.f5 ?_;refine t_gr (c133 (g:=fun _ p=>paperF u p) (hu.le le1.1).papers ?_) ?_
 ·rintro i x h' hle hx _ ⟨q,m,d,rfl,hs⟩;exact cv_fw X0_ok (by rfl) (c134 (hat.le hle.1) hl hi _ hs)
 ·rintro _ h' hle rfl;refine gZ ?_;exact t_ret ⟨LH.le_trans le1 hle,rfl⟩
set_option maxRecDepth 100000 in
theorem c136{h:LH}{z0:Addr}{f:FileC}{u:UseFile}(hu:FileR h.get f u)(hat:FileAt h.get z0 f u)(hl:IsI (u.lands-1))(hi:IsI (u.items-1))(i:Nat){r:Request}(hx:u.requests[i]?=some r){q:Option Addr}{m c:Nat}(hs:Sl IntE 1 h.get q m r.items) :
  Gr Tryz.prog 207 #[.int .i64 i,.agg #[.int .i64 r.day,.int .i64 r.land,.slice q m c],.pointer (some z0)] h fun v _=>v=.int .i64 (requestF u i r):=by
 refine w136 _ _ _ _ _ _ _ X0_ok ?_;unfold n136;have hat0:=hat;obtain⟨f0,f1,f2,f3,f4,f5,f6⟩:=hat;have hlt:i<u.requests.length:=(List.getElem?_eq_some_iff.1 hx).1;have hlen:=hu.requests.2.1;have hw:wrap .i64 ((i:Int)-1)=(i:Int)-1:=wrap_id (by omega) (by omega);refine gZ ?_;refine t_pu (c84 _) ?_;refine gZ ?_;refine t_pu (c83 _ _) ?_;refine yJ (fun e1=>?_) (fun e1=>?_)
 ·have e1':AV.val (.bool (decide (r.day<u.from_)))=AV.val (.bool true):=by simp[e1]
  refine gZ ?_;refine t_pu (c83 _ _) ?_;refine gZ ?_;refine t_pu (c86 (f:=f) (u:=u) hl _) ?_;refine gZ ?_;refine t_pu (c83 _ _) ?_;refine gZ ?_;refine t_gr (c70 hs hi) ?_;rintro _ h' hle rfl;obtain⟨g0,g1,g2,g3,g4,g5,g6⟩:=hat0.le hle.1;refine gZ ?_;refine flaws4 fun r2 h2 hle2 hs=>?_;obtain⟨g0,g1,g2,g3,g4,g5,g6⟩:=hat0.le (LH.le_trans hle hle2).1;refine gZ ?_;refine t_pu (c96 hs) ?_;refine gZ ?_;refine t_ret ⟨LH.le_trans hle hle2,?_⟩;simp[firstF,requestF,isDay,e1];split<;>simp_all
 ·have e1':AV.val (.bool (decide (r.day<u.from_)))=AV.val (.bool false):=by simp[e1]
  refine yJ (fun e2=>?_) (fun e2=>?_)
  ·have e2':AV.val (.bool (decide ((i:Int)>0)))=AV.val (.bool true):=by rw[decide_eq_true e2]
   have e3:(if (i:Int)-1>0 then (i:Int)-1 else 0)=((i-1:Nat):Int):=by split<;>omega
   simp only[hw,e3];obtain⟨y,a,hy,ha,e4,e5,q5,m5,c5,e6,e7⟩:=hu.requests.at (i:=i-1) (by have:=hu.requests.1;omega);have:=hu.requests.1;refine gZ ?_;refine t_pu (c83 _ _) ?_;refine gZ ?_;refine t_pu (c86 (f:=f) (u:=u) hl _) ?_;refine gZ ?_;refine t_pu (c83 _ _) ?_;refine gZ ?_;refine t_gr (c70 hs hi) ?_;rintro _ h' hle rfl;have e4':=Cells.cell?_le hle.1 e4;obtain⟨g0,g1,g2,g3,g4,g5,g6⟩:=hat0.le hle.1;refine gZ ?_;refine flaws4 fun r2 h2 hle2 hs=>?_;have e4':=Cells.cell?_le (LH.le_trans hle hle2).1 e4;obtain⟨g0,g1,g2,g3,g4,g5,g6⟩:=hat0.le (LH.le_trans hle hle2).1;refine gZ ?_;refine t_pu (c96 hs) ?_;refine gZ ?_;refine t_ret ⟨LH.le_trans hle hle2,?_⟩;simp[firstF,requestF,isDay,e1,hy,show 0<i by omega];split<;>simp_all;split<;>simp_all;split<;>simp_all
  ·have e2':AV.val (.bool (decide ((i:Int)>0)))=AV.val (.bool false):=by rw[decide_eq_false e2]
   refine gZ ?_;refine t_pu (c83 _ _) ?_;refine gZ ?_;refine t_pu (c86 (f:=f) (u:=u) hl _) ?_;refine gZ ?_;refine t_pu (c83 _ _) ?_;refine gZ ?_;refine t_gr (c70 hs hi) ?_;rintro _ h' hle rfl;obtain⟨g0,g1,g2,g3,g4,g5,g6⟩:=hat0.le hle.1;refine gZ ?_;refine flaws4 fun r2 h2 hle2 hs=>?_;obtain⟨g0,g1,g2,g3,g4,g5,g6⟩:=hat0.le (LH.le_trans hle hle2).1;refine gZ ?_;refine t_pu (c96 hs) ?_;refine gZ ?_;refine t_ret ⟨LH.le_trans hle hle2,?_⟩;simp[firstF,requestF,isDay,e1,show ¬ 0<i by omega];split<;>simp_all;split<;>simp_all
theorem c129{h:LH}{f:FileC}{u:UseFile}(hu:FileR h.get f u)(hl:IsI (u.lands-1))(hi:IsI (u.items-1)):Gr Tryz.prog 200 #[fileV f u] h fun r _=>r=.int .i64 (requestsF u):=by
 refine w129 _ _ _ _ _ _ _ _ _ _ _ _ _ X0_ok ?_;unfold n129;refine t_new fun r hr=>?_;have le1:h.le _:=LH.upd_le (x:=(true,.cells #[.int .i64 u.items,.int .i64 u.lands,.int .i64 u.from_,.int .i64 u.idle,.slice f.p4 f.n4 f.c4,.slice f.p5 f.n5 f.c5,.slice f.p6 f.n6 f.c6] 118 (0,0))) hr;have hat:=fileAt_new (h:=h.get) (r:=r) (f:=f) (u:=u) (T:=118);refine gL1 hat.f6 ?_;refine t_gr (c135 (g:=requestF u) (hu.le le1.1).requests ?_) ?_
 ·rintro i x h' hle hx _ ⟨q,m,d,rfl,hs⟩;exact cv_fw X0_ok (by rfl) (c136 ((hu.le le1.1).le hle.1) (hat.le hle.1) hl hi i hx hs)
 ·rintro _ h' hle rfl;refine gZ ?_;exact t_ret ⟨LH.le_trans le1 hle,rfl⟩
def Parts(h:Cells):Prop:=(∀ j,j<4->h.cell? ⟨0,j,none⟩=some (.func (.func (197+j)) #[] #[]))
theorem Parts.le{h h':Cells}(hl:h.le h')(p:Parts h):Parts h':=fun j hj=>Cells.cell?_le hl (p j hj)
theorem c26{h:LH}{f:FileC}{u:UseFile}(hp:Parts h.get)(hu:FileR h.get f u):Gr Tryz.prog 74 #[fileV f u] h fun r _=>r=.int .i64 (checkF u):=by
 refine w26 _ _ _ _ _ _ _ _ _ _ _ _ _ X0_ok ?_;unfold n26;refine t_loadV (hp 0 (by omega)) (t_loadV (hp 1 (by omega)) (t_loadV (hp 2 (by omega)) (t_loadV (hp 3 (by omega)) ?_)));refine t_loop (fun m vs h'=>h.le h'/\∃ i:Nat,vs=[.int .i64 0,.int .i64 i]/\i<=4/\m=4-i/\(0<i->numbersF u=0)/\checkF u=firstF (fun _ x=>x) i ([numbersF u,excusesF u,papersF u,requestsF u].drop i)) ⟨LH.le_refl _,0,rfl,by omega,rfl,by omega,rfl⟩ ?_;rintro Y m vs h₁ hY ⟨hle,i,rfl,hi4,rfl,hnum,hc⟩;refine yJ (fun e1=>?_) (fun e1=>?_)
 ·refine t_index (v:=.func (.func (197+i)) #[] #[]) und98 inf87 und87 agg87 (by omega) ?_ ?_
  ·have:i=0\/i=1\/i=2\/i=3:=by omega
   rcases this with rfl|rfl|rfl|rfl<;>rfl
  have key:CV X0 Tryz.prog (.func (.func (197+i)) #[] #[]) #[fileV f u] h₁ fun r h'=>h₁.le h'/\r=.int .i64 ([numbersF u,excusesF u,papersF u,requestsF u].getD i 0):=by
   have hu1:=hu.le hle.1;have:i=0\/i=1\/i=2\/i=3:=by omega
   rcases this with rfl|rfl|rfl|rfl
   ·exact cv_fw X0_ok (by rfl) (pu_gr c126)
   ·exact cv_fw X0_ok (by rfl) (c127 hu1)
   ·exact cv_fw X0_ok (by rfl) (c128 hu1 (num_lands (hnum (by omega))) (num_items (hnum (by omega))))
   ·exact cv_fw X0_ok (by rfl) (c129 hu1 (num_lands (hnum (by omega))) (num_items (hnum (by omega))))
  refine t_callv key ?_;rintro _ h₂ ⟨hle2,rfl⟩;refine gZ ?_;have hd:[numbersF u,excusesF u,papersF u,requestsF u].drop i=[numbersF u,excusesF u,papersF u,requestsF u].getD i 0::[numbersF u,excusesF u,papersF u,requestsF u].drop (i+1):=by
   have:i=0\/i=1\/i=2\/i=3:=by omega
   rcases this with rfl|rfl|rfl|rfl<;>rfl
  rw[hd]at hc;refine t_cond (fun e3=>?_) (fun e3=>?_)
  ·refine gZ ?_;refine t_ret ⟨LH.le_trans hle hle2,?_⟩;rw[hc,firstF,if_pos (by simpa using e3)]
  ·refine t_again (hY (4-(i+1)) _ _ (by omega) ⟨LH.le_trans hle hle2,i+1,?_,by omega,rfl,fun _=>?_,?_⟩)
   rotate_left
   ·rcases Nat.eq_zero_or_pos i with rfl|hi0
    ·simpa using e3
    ·exact hnum hi0
   rotate_left
   ·rw[wrap_id (by omega) (by omega)];rfl
   ·rw[hc,firstF,if_neg (by simpa using e3)]
 ·refine gZ ?_;refine t_ret ⟨hle,?_⟩;rw[hc,List.drop_eq_nil_of_le (by simp;omega)];rfl
end
end Go.Y
section
namespace Go.TM
open Go.ChangeShapes Go.RowKit
theorem trodAll8{H:Type}{enc:TypeId×Value->H}{P:Program}{w:World}{base:Nat}{spare:Nat->Bool}{held:Bool}{t0 t1 t2 t3 t4 t5 t6 t7:TypeId}{args:Array Value}{ds:List (DataW H)}{ps:List MemPlace}(h:DataW.TrodAll enc P w base spare held [t0,t1,t2,t3,t4,t5,t6,t7] args.toList ds ps) :
  ∃ v0 v1 v2 v3 v4 v5 v6 v7 d0 d1 d2 d3 d4 d5 d6 d7 p0 p1 p2 p3 p4 p5 p6 p7,args=#[v0,v1,v2,v3,v4,v5,v6,v7]/\ds=[d0,d1,d2,d3,d4,d5,d6,d7]/\ps=p0++p1++p2++p3++p4++p5++p6++p7/\DataW.Trod enc P w base spare held t0 v0 d0 p0/\DataW.Trod enc P w base spare held t1 v1 d1 p1/\DataW.Trod enc P w base spare held t2 v2 d2 p2/\DataW.Trod enc P w base spare held t3 v3 d3 p3/\DataW.Trod enc P w base spare held t4 v4 d4 p4/\DataW.Trod enc P w base spare held t5 v5 d5 p5/\DataW.Trod enc P w base spare held t6 v6 d6 p6/\DataW.Trod enc P w base spare held t7 v7 d7 p7:=by
 obtain⟨v0,vs0,d0,ds0,p0,q0,hargs,rfl,rfl,hd0,hr0⟩:=trodAll_cons h;obtain⟨v1,vs1,d1,ds1,p1,q1,rfl,rfl,rfl,hd1,hr1⟩:=trodAll_cons hr0;obtain⟨v2,vs2,d2,ds2,p2,q2,rfl,rfl,rfl,hd2,hr2⟩:=trodAll_cons hr1;obtain⟨v3,vs3,d3,ds3,p3,q3,rfl,rfl,rfl,hd3,hr3⟩:=trodAll_cons hr2;obtain⟨v4,vs4,d4,ds4,p4,q4,rfl,rfl,rfl,hd4,hr4⟩:=trodAll_cons hr3;obtain⟨v5,vs5,d5,ds5,p5,q5,rfl,rfl,rfl,hd5,hr5⟩:=trodAll_cons hr4;obtain⟨v6,vs6,d6,ds6,p6,q6,rfl,rfl,rfl,hd6,hr6⟩:=trodAll_cons hr5;obtain⟨v7,vs7,d7,ds7,p7,q7,rfl,rfl,rfl,hd7,hr7⟩:=trodAll_cons hr6;obtain⟨rfl,rfl,rfl⟩:=trodAll_nil hr7;exact⟨v0,v1,v2,v3,v4,v5,v6,v7,d0,d1,d2,d3,d4,d5,d6,d7,p0,p1,p2,p3,p4,p5,p6,p7,by cases args;simp_all,rfl,by simp,hd0,hd1,hd2,hd3,hd4,hd5,hd6,hd7⟩
end Go.TM
end
namespace Go.TM.Te
section
def lens:List Int:=[31,28,31,30,31,30,31,31,30,31,30,31]
def lengthT(y m:Int):Int:=if m=2/\y%4=0 then 29 else lens.getD (m-1).toNat 0
def beforeT(y:Int):Int:=(y-2000) / 4*1461+(y-2000)%4*365+(if (y-2000)%4<1 then (y-2000)%4 else 1)
def sumT(y:Int):Nat->Int
 | 0=>0
 | 1=>0
 | m+2=>sumT y (m+1)+lengthT y ((m+1:Nat):Int)
def dayOfT(y m d:Int):Int:=beforeT y+sumT y m.toNat+d-1
theorem month_of{m:Int}(h:1<=m/\m<=12):m=1\/m=2\/m=3\/m=4\/m=5\/m=6\/m=7\/m=8\/m=9\/m=10\/m=11\/m=12:=by omega
theorem length_range{y m:Int}(h:1<=m/\m<=12):28<=lengthT y m/\lengthT y m<=31:=by
 unfold lengthT;split
 ·omega
 ·rcases month_of h with rfl|rfl|rfl|rfl|rfl|rfl|rfl|rfl|rfl|rfl|rfl|rfl<;>decide
theorem sum_next{y m:Int}(h:1<=m):sumT y (m+1).toNat=sumT y m.toNat+lengthT y m:=by
 obtain⟨n,rfl⟩ : ∃ n:Nat,m=((n+1:Nat):Int):=⟨(m-1).toNat,by omega⟩
 have e1:(((n+1:Nat):Int)+1).toNat=n+2:=by omega
 have e2:((n+1:Nat):Int).toNat=n+1:=by omega
 rw[e1,e2];rfl
theorem before_next(y:Int):beforeT (y+1)=beforeT y+(if y%4=0 then 366 else 365):=by
 unfold beforeT;split<;>split<;>split<;>omega
theorem year_sum(y:Int):sumT y 12+lengthT y 12=if y%4=0 then 366 else 365:=by
 have key:sumT y 12=31+lengthT y 2+31+30+31+30+31+31+30+31+30:=by
  simp only[sumT];simp[lengthT,lens]
 rw[key];unfold lengthT;by_cases h:y%4=0
 ·simp[h,lens]
 ·simp[h,lens]
def startM(M:Int):Int:=dayOfT (M / 12) (M%12+1) 1
def lenM(M:Int):Int:=lengthT (M / 12) (M%12+1)
theorem lenM_range(M:Int):28<=lenM M/\lenM M<=31:=length_range (by omega)
theorem startM_next(M:Int):startM (M+1)=startM M+lenM M:=by
 unfold startM lenM dayOfT;by_cases h:M%12=11
 ·have e1:(M+1) / 12=M / 12+1:=by omega
  have e2:(M+1)%12+1=1:=by omega
  have e3:M%12+1=12:=by omega
  rw[e1,e2,e3,before_next];have:=year_sum (M / 12);have e4:(12:Int).toNat=12:=rfl;have e5:sumT (M / 12+1) (1:Int).toNat=0:=rfl;rw[e4,e5];omega
 ·have e1:(M+1) / 12=M / 12:=by omega
  have e2:(M+1)%12=M%12+1:=by omega
  rw[e1,e2,sum_next (by omega)];omega
theorem startM_far{M:Int}:∀ (n:Nat),startM M+28*(n:Int)<=startM (M+n)
 | 0=>by simp
 | n+1=>by
  have ih:=startM_far (M:=M) n;have h1:=startM_next (M+n);have h2:=lenM_range (M+n);have:M+((n+1:Nat):Int)=M+n+1:=by omega
  rw[this,h1];omega
theorem startM_up{a b:Int}(h:a<=b):startM a<=startM b:=by
 have:=startM_far (M:=a) (b-a).toNat;rw[show a+((b-a).toNat:Int)=b by omega]at this;omega
theorem startM_lt{a b:Int}(h:a<b):startM a+lenM a<=startM b:=by
 rw[<- startM_next];exact startM_up (by omega)
theorem last_day:startM (2100*12)=36525:=by decide +kernel
structure PartsOf(s y m d:Int):Prop where
 year:2000<=y/\y<=2099
 month:1<=m/\m<=12
 date:1<=d/\d<=lengthT y m
 day:dayOfT y m d=s
theorem parts_of{s y m r:Int}(hy:2000<=y/\y<=2099)(hm:1<=m/\m<=12)(h:s=beforeT y+sumT y m.toNat+r)(hr:0<=r/\r<lengthT y m):PartsOf s y m (r+1) :=
 ⟨hy,hm,by omega,by unfold dayOfT;omega⟩
theorem month_more{y m r:Int}(hm:1<=m/\m<=12)(h:sumT y m.toNat+r<if y%4=0 then 366 else 365)(hr:lengthT y m<=r):m+1<=12:=by
 by_cases e:m=12
 ·subst e;have:=year_sum y;have e4:(12:Int).toNat=12:=rfl;rw[e4]at h;omega
 ·omega
theorem year_here{s y:Int}(h:s<beforeT (y+1)):s-beforeT y<if y%4=0 then 366 else 365:=by
 rw[before_next]at h;omega
theorem year_last:beforeT 2100=36525:=by decide +kernel
theorem year_first:beforeT 2000=0:=by decide +kernel
def monthNo(y m:Int):Int:=y*12+(m-1)
theorem day_start{y m d:Int}(hm:1<=m/\m<=12):dayOfT y m d=startM (monthNo y m)+d-1/\lengthT y m=lenM (monthNo y m):=by
 unfold startM lenM monthNo dayOfT;have e1:(y*12+(m-1)) / 12=y:=by omega
 have e2:(y*12+(m-1))%12+1=m:=by omega
 rw[e1,e2];exact⟨by omega,rfl⟩
def monthsT(y m d n:Int):Int :=
 if 2099<y+(m+n-1) / 12 then 36524 else dayOfT (y+(m+n-1) / 12) ((m+n-1)%12+1) (if lengthT (y+(m+n-1) / 12) ((m+n-1)%12+1)<d then lengthT (y+(m+n-1) / 12) ((m+n-1)%12+1) else d)
theorem months_is{y m d n:Int}:monthsT y m d n=if 2099<(monthNo y m+n) / 12 then 36524 else startM (monthNo y m+n)+(if lenM (monthNo y m+n)<d then lenM (monthNo y m+n) else d)-1:=by
 have e1:y+(m+n-1) / 12=(monthNo y m+n) / 12:=by unfold monthNo;omega
 have e2:(m+n-1)%12=(monthNo y m+n)%12:=by unfold monthNo;omega
 unfold monthsT;rw[e1,e2];split
 ·rfl
 ·obtain⟨h1,h2⟩:=day_start (y:=(monthNo y m+n) / 12) (m:=(monthNo y m+n)%12+1) (d:=if lenM (monthNo y m+n)<d then lenM (monthNo y m+n) else d) (by omega);have e3:monthNo ((monthNo y m+n) / 12) ((monthNo y m+n)%12+1)=monthNo y m+n:=by
   generalize monthNo y m+n=K;unfold monthNo;omega
  rw[e3]at h1 h2;rw[h2,h1]
theorem months_up{y m d n k:Int}(hd:1<=d)(h:n<=k):monthsT y m d n<=monthsT y m d k:=by
 rw[months_is,months_is];generalize ha:monthNo y m+n=a;generalize hb:monthNo y m+k=b;have hab:a<=b:=by omega
 have la:=lenM_range a;have lb:=lenM_range b;by_cases h1:2099<a / 12
 ·rw[if_pos h1,if_pos (by omega)];omega
 ·rw[if_neg h1];by_cases h2:2099<b / 12
  ·rw[if_pos h2];have:=startM_lt (a:=a) (b:=2100*12) (by omega);rw[last_day]at this;split<;>omega
  ·rw[if_neg h2];by_cases e:a=b
   ·subst e;omega
   ·have:=startM_lt (a:=a) (b:=b) (by omega);split<;>split<;>omega
theorem months_none{s y m d:Int}(p:PartsOf s y m d):monthsT y m d 0=s:=by
 obtain⟨h1,h2⟩:=day_start (y:=y) (m:=m) (d:=d) p.month;have:=p.date;have:=p.year;have:=p.month;have:=p.day;rw[months_is,if_neg (by unfold monthNo;omega),Int.add_zero,if_neg (by omega)];omega
structure Cal where
 closed:List Int
 closures:List (Int×Int)
def openB(c:Cal)(day:Int):Bool:=!(c.closed.contains ((day+5)%7)||c.closures.any fun s=>decide (s.1<=day)&&decide (day<=s.2))
def nextGo(c:Cal):Nat->Int->Int
 | 0,_=>36524
 | n+1,day=>if openB c day then day else nextGo c n (day+1)
def nextT(c:Cal)(day:Int):Int:=nextGo c (36525-day).toNat day
theorem next_ge(c:Cal):∀ (n:Nat) (day:Int),day+n<=36525->day<=36524->day<=nextGo c n day/\nextGo c n day<=36524
 | 0,day,_,h=>⟨h,Int.le_refl _⟩
 | n+1,day,h,hd=>by
  rw[nextGo];split
  ·exact⟨Int.le_refl _,hd⟩
  ·by_cases e:day=36524
   ·have:n=0:=by omega
    subst this;exact⟨hd,Int.le_refl _⟩
   ·have:=next_ge c n (day+1) (by omega) (by omega);omega
theorem next_up(c:Cal):∀ (n m:Nat) (a b:Int),a+n=36525->b+m=36525->a<=b->b<=36524->nextGo c n a<=nextGo c m b
 | 0,m,a,b,h1,h2,h3,h4=>by omega
 | n+1,m,a,b,h1,h2,h3,h4=>by
  rw[nextGo];split
  ·have:=next_ge c m b (by omega) h4;omega
  ·rename_i hc;by_cases e:a=b
   ·subst e;have:m=n+1:=by omega
    subst this;rw[nextGo,if_neg hc];exact Int.le_refl _
   ·exact next_up c n m (a+1) b (by omega) h2 (by omega) h4
theorem nextT_up{c:Cal}{a b:Int}(h:a<=b)(hb:b<=36524):nextT c a<=nextT c b:=next_up c _ _ a b (by omega) (by omega) h hb
theorem nextT_ge{c:Cal}{a:Int}(h:a<=36524):a<=nextT c a/\nextT c a<=36524:=next_ge c _ a (by omega) h
end
section
theorem parts_uniq{s y m d y' m' d':Int}(p:PartsOf s y m d)(q:PartsOf s y' m' d'):y=y'/\m=m'/\d=d':=by
 obtain⟨h1,h2⟩:=day_start (y:=y) (m:=m) (d:=d) p.month;obtain⟨g1,g2⟩:=day_start (y:=y') (m:=m') (d:=d') q.month;have pd:=p.date;have pm:=p.month;have pe:=p.day;have qd:=q.date;have qm:=q.month;have qe:=q.day;rw[h2]at pd;rw[g2]at qd;have hM:monthNo y m=monthNo y' m':=by
  by_cases c1:monthNo y m<monthNo y' m'
  ·have:=startM_lt c1;omega
  ·by_cases c2:monthNo y' m'<monthNo y m
   ·have:=startM_lt c2;omega
   ·omega
 have e1:y=y'/\m=m':=by unfold monthNo at hM;omega
 rw[hM]at h1;exact⟨e1.1,e1.2,by omega⟩
theorem months_most{y m d n:Int}:monthsT y m d n<=36524:=by
 rw[months_is];split
 ·omega
 ·rename_i h;have h1:=startM_lt (a:=monthNo y m+n) (b:=2100*12) (by omega);rw[last_day]at h1;split<;>omega
def LeadsTo(s unit n r:Int):Prop:=(unit=2/\∃ y m d,PartsOf s y m d/\r=monthsT y m d n)\/(unit=1/\r=if s+n*7<36524 then s+n*7 else 36524)\/(unit=0/\r=if s+n<36524 then s+n else 36524)
theorem LeadsTo.most{s unit n r:Int}(h:LeadsTo s unit n r):r<=36524:=by
 rcases h with⟨_,y,m,d,_,rfl⟩|⟨_,rfl⟩|⟨_,rfl⟩
 ·exact months_most
 ·split<;>omega
 ·split<;>omega
theorem LeadsTo.from{s unit n r:Int}(h:LeadsTo s unit n r)(hs:s<=36524)(hn:0<=n):s<=r:=by
 rcases h with⟨_,y,m,d,p,rfl⟩|⟨_,rfl⟩|⟨_,rfl⟩
 ·have h1:=months_up (y:=y) (m:=m) p.date.1 hn;rw[months_none p]at h1;exact h1
 ·split<;>omega
 ·split<;>omega
theorem LeadsTo.up{s unit n k r r':Int}(h:LeadsTo s unit n r)(h':LeadsTo s unit k r')(hn:n<=k):r<=r':=by
 rcases h with⟨e,y,m,d,p,rfl⟩|⟨e,rfl⟩|⟨e,rfl⟩
 ·rcases h' with⟨_,y',m',d',p',rfl⟩|⟨e',_⟩|⟨e',_⟩
  ·obtain⟨rfl,rfl,rfl⟩:=parts_uniq p p';exact months_up p.date.1 hn
  ·omega
  ·omega
 ·rcases h' with⟨e',_⟩|⟨_,rfl⟩|⟨e',_⟩
  ·omega
  ·split<;>split<;>omega
  ·omega
 ·rcases h' with⟨e',_⟩|⟨e',_⟩|⟨_,rfl⟩
  ·omega
  ·omega
  ·split<;>split<;>omega
def EndsAt(c:Cal)(s unit n x:Int):Prop:=∃ r,LeadsTo s unit n r/\x=nextT c r
theorem EndsAt.range{c:Cal}{s unit n x:Int}(h:EndsAt c s unit n x)(hs:s<=36524)(hn:0<=n):s<=x/\x<=36524:=by
 obtain⟨r,h1,rfl⟩:=h;have:=h1.from hs hn;have:=nextT_ge (c:=c) h1.most;omega
theorem EndsAt.up{c:Cal}{s unit n k x y:Int}(h:EndsAt c s unit n x)(h':EndsAt c s unit k y)(hn:n<=k):x<=y:=by
 obtain⟨r,h1,rfl⟩:=h;obtain⟨r',h2,rfl⟩:=h';exact nextT_up (h1.up h2 hn) h2.most
end
end Go.TM.Te
namespace Go.TM
section
structure CalC where
 p0:Option Addr
 n0:Nat
 c0:Nat
 p1:Option Addr
 n1:Nat
 c1:Nat
structure CalD where
 closed:List Int
 closures:List Span
def calV(f:CalC):Value:=.agg #[.slice f.p0 f.n0 f.c0,.slice f.p1 f.n1 f.c1]
structure CalR(h:Cells)(f:CalC)(x:CalD):Prop where
 closed:Sl IntE 1 h f.p0 f.n0 x.closed
 closures:Sl SpanE 2 h f.p1 f.n1 x.closures
theorem CalR.rd{h h':Cells}{f:CalC}{x:CalD}(hl:Rd h h')(r:CalR h f x):CalR h' f x:=⟨r.closed.rd IntE.grow hl,r.closures.rd SpanE.grow hl⟩
theorem CalR.le{h h':Cells}{f:CalC}{x:CalD}(hl:h.le h')(r:CalR h f x):CalR h' f x:=r.rd (Rd.of_le hl)
def CalD.cal(x:CalD):Te.Cal:=⟨x.closed,x.closures.map fun s=>(s.first,s.last)⟩
structure CalOk(x:CalD):Prop where
 closed:∀ (i:Nat) v,x.closed[i]?=some v->(0<=v/\v<=6)/\∀ u,0<i->x.closed[i-1]?=some u->u<v
 many:x.closures.length<=6
 closures:∀ s∈x.closures,0<=s.first/\s.first<=s.last/\s.last<=36524
section
variable {H:Type} {enc:TypeId×Value->H} {P:Program} {W:World} {base:Nat} {sp:Nat->Bool} {held:Bool} {fuel:Nat} {t:TypeId} {cs:List Value} {x:DataW H×List MemPlace}
variable {tI tIs tSpan tSpans tPaper tPapers tReq tReqs tFile tCal:TypeId}
end
end
section
variable {P:Program} {E:Halt->Cells->Prop} {h:Cells}
def isI64(P:Program)(t:TypeId):Bool:=match P.underlying t with
 | some (.int .i64)=>true
 | _=>false
def twoInts(P:Program)(t:TypeId):Bool:=match P.underlying t with
 | some (.struct fs)=>(match fs.toList with
  | [a, b] => a.name != "_" && b.name != "_" && isI64 P a.type && isI64 P b.type && Nat.beq a.offset 0 && Nat.beq b.offset 1
  | _=>false)&&!P.stoodInHeld t
 | _=>false
theorem isI64_und{t:TypeId}(ht:isI64 P t=true):P.underlying t=some (.int .i64):=by
 unfold isI64 at ht;split at ht
 ·assumption
 ·cases ht
theorem isI64_agg{t:TypeId}(ht:isI64 P t=true):isAggT P t=false:=by
 unfold isAggT;rw[isI64_und ht]
theorem twoInts_spec{t : TypeId}(ht : twoInts P t = true) : ∃ a b : Field, P.underlying t = some (.struct #[a, b]) /\ a.name ≠ "_" /\ b.name ≠ "_" /\ isI64 P a.type = true /\ isI64 P b.type = true /\ a.offset = 0 /\ b.offset = 1 /\ P.stoodInHeld t = false := by
 unfold twoInts at ht;split at ht
 ·rename_i fs hu;simp only[Bool.and_eq_true,Bool.not_eq_true']at ht;obtain⟨h1,h2⟩:=ht;split at h1
  ·rename_i a b hfs;simp only[Bool.and_eq_true,bne_iff_ne]at h1;obtain⟨⟨⟨⟨⟨h3,h4⟩,h5⟩,h6⟩,h7⟩,h8⟩:=h1;have:fs=#[a,b]:=by rw[<- hfs]
   exact⟨a,b,by rw[hu,this],h3,h4,h5,h6,nbeq_true h7,nbeq_true h8,h2⟩
  ·cases h1
 ·cases ht
theorem lwp_partI{Q:Value->Cells->Prop}{t:TypeId}{cs:Array Value}{o:Nat}{v:Value}(ht:isI64 P t=true)(hv:cs[o]?=some v)(hq:Q v h):Sem.lwp P (part t cs o) Q E h:=by
 unfold part;rw[lwp_bind,lwp_isAgg_false (isI64_und ht) (isI64_agg ht)];simp only[Bool.false_eq_true,if_false,hv];exact hq
theorem lwp_equalI{Q:Bool->Cells->Prop}{t:TypeId}{d:Nat}{a b:Int}(ht:isI64 P t=true)(hq:Q (a==b) h):Sem.lwp P (Op.equalIn (d+1) t (.int .i64 a) (.int .i64 b)) Q E h:=by
 unfold Op.equalIn;rw[lwp_bind,lwp_underlying (isI64_und ht)];exact hq
theorem lwp_equal2{Q:Bool->Cells->Prop}{t:TypeId}{a b c d:Int}(ht:twoInts P t=true)(hq:Q (decide (a=c/\b=d)) h):Sem.lwp P (Op.equal t (.agg #[a,b]) (.agg #[c,d])) Q E h:=by
 obtain⟨f,g,hu,n1,n2,i1,i2,o1,o2,hs⟩:=twoInts_spec ht;unfold Op.equal;have hmd:Op.maxDepth=9998+1+1:=rfl;rw[hmd,Op.equalIn];rw[lwp_bind,lwp_underlying hu];simp only[lwp_bind,lwp_program,hs,Bool.false_eq_true,if_false,List.forIn_toArray,List.forIn_cons,List.forIn_nil,n1,n2,ne_eq,not_false_eq_true,if_true];refine lwp_partI i1 (v:=.int .i64 a) (by rw[o1];rfl) ?_;refine lwp_partI i1 (v:=.int .i64 c) (by rw[o1];rfl) ?_;refine lwp_equalI i1 ?_;by_cases e1:a=c
 ·subst e1;simp only[beq_self_eq_true,Bool.not_true,Bool.false_eq_true,if_false,lwp_pure,lwp_bind];refine lwp_partI i2 (v:=.int .i64 b) (by rw[o2];rfl) ?_;refine lwp_partI i2 (v:=.int .i64 d) (by rw[o2];rfl) ?_;refine lwp_equalI i2 ?_;by_cases e2:b=d
  ·subst e2;simpa[lwp_pure] using hq
  ·have e3:(b==d)=false:=by simpa using e2
   simpa[lwp_pure,e2,e3] using hq
 ·have e3:(a==c)=false:=by simpa using e1
  simpa[lwp_pure,e1,e3] using hq
def IsKey(P:Program)(kt:TypeId)(v:Value):Prop:=(isI64 P kt=true/\∃ n,v=.int .i64 n)\/(twoInts P kt=true/\∃ a b,v=.agg #[.int .i64 a,.int .i64 b])
theorem lwp_checkKey{Q:Unit->Cells->Prop}{e:Bool}{kt:TypeId}{v:Value}(hk:IsKey P kt v)(hq:Q () h):Sem.lwp P (Instr.checkKey e 10000 kt v) Q E h:=by
 have one:∀ {Q:Unit->Cells->Prop} {d:Nat} {t:TypeId} {n:Int},isI64 P t=true->Q () h->Sem.lwp P (Instr.checkKey e (d+1) t (.int .i64 n)) Q E h:=by
  intro Q d t n ht hq;unfold Instr.checkKey;rw[lwp_bind,lwp_underlying (isI64_und ht)];exact hq
 rcases hk with⟨ht,n,rfl⟩|⟨ht,a,b,rfl⟩
 ·exact one (d:=9999) ht hq
 ·obtain⟨f,g,hu,n1,n2,i1,i2,o1,o2,hs⟩:=twoInts_spec ht;rw[show (10000:Nat)=9998+1+1 from rfl,Instr.checkKey];rw[lwp_bind,lwp_underlying hu];simp only[lwp_bind,List.forIn_toArray,List.forIn_cons,List.forIn_nil,n1,n2,ne_eq,not_false_eq_true,if_true,lwp_pure];refine lwp_partI i1 (v:=.int .i64 a) (by rw[o1];rfl) ?_;refine one i1 ?_;refine lwp_partI i2 (v:=.int .i64 b) (by rw[o2];rfl) ?_;exact one i2 hq
theorem findNow_int{t:TypeId}{n:Int}:∀ (es:List MapEntry) (i:Nat),(∀ e∈es,∃ m,e.key=.int .i64 m) ->
  (∃ j e,es[j]?=some e/\e.key=.int .i64 n/\Instr.findNow (.int .i64) (.int .i64 n) es i=some (some (i+j,e.val)))\/((∀ e∈es,e.key≠.int .i64 n)/\Instr.findNow (.int .i64) (.int .i64 n) es i=some none):=by
 intro es
 induction es with
 | nil=>intro i _;exact .inr ⟨fun e he=>by simp at he,rfl⟩
 | cons e es ih =>
  intro i hes;obtain⟨m,hm⟩:=hes e (by simp);unfold Instr.findNow;rw[hm];simp only[Instr.sameNow,if_true];by_cases hnm:n=m
  ·subst hnm;left;refine⟨0,e,rfl,hm,?_⟩;simp
  ·have hb:(n==m)=false:=by simpa using hnm
   rw[hb];simp only[];rcases ih (i+1) (fun e' he'=>hes e' (by simp[he'])) with⟨j,e',h1,h2,h3⟩|⟨h1,h2⟩
   ·left;exact⟨j+1,e',by simpa using h1,h2,by rw[h3];congr 3;omega⟩
   ·right;refine⟨fun e' he'=>?_,h2⟩;rcases List.mem_cons.1 he' with rfl|he'
    ·rw[hm];intro hc;cases hc;exact hnm rfl
    ·exact h1 e' he'
theorem lwp_findAsking{Q:Option (Nat×Value)->Cells->Prop}{kt:TypeId}{a b:Int}(ht:twoInts P kt=true):∀ (es:List MapEntry) (i:Nat),(∀ e∈es,∃ c d,e.key=.agg #[.int .i64 c,.int .i64 d]) ->
  (∀ j e,es[j]?=some e->e.key=.agg #[a,b]->Q (some (i+j,e.val)) h)->((∀ e∈es,e.key≠.agg #[a,b])->Q none h)->Sem.lwp P (Instr.findAsking kt (.agg #[a,b]) es i) Q E h:=by
 intro es
 induction es with
 | nil=>intro i _ _ h2;exact h2 fun e he=>by simp at he
 | cons e es ih =>
  intro i hes h1 h2;obtain⟨c,d,hm⟩:=hes e (by simp);unfold Instr.findAsking;rw[lwp_bind,hm];refine lwp_equal2 ht ?_;by_cases hab:a=c/\b=d
  ·obtain⟨rfl,rfl⟩:=hab;simp only[and_self,decide_true,if_true,lwp_pure];have:=h1 0 e rfl hm;simpa using this
  ·simp only[hab,decide_false,Bool.false_eq_true,if_false];refine ih (i+1) (fun e' he'=>hes e' (by simp[he'])) (fun j e' he' hk=>?_) fun hno=>h2 fun e' he'=>?_
   ·have:=h1 (j+1) e' (by simpa using he') hk;rw[show i+1+j=i+(j+1) by omega];exact this
   ·rcases List.mem_cons.1 he' with rfl|he'
    ·rw[hm];intro hc;simp only[Value.agg.injEq,Array.mk.injEq,List.cons.injEq,Value.int.injEq,and_true,true_and]at hc;exact hab ⟨hc.1.symm,hc.2.symm⟩
    ·exact hno e' he'
theorem lwp_findKey{Q:Option (Nat×Value)->Cells->Prop}{kt:TypeId}{k:Value}{es:List MapEntry}(hk:IsKey P kt k)(hes:∀ e∈es,IsKey P kt e.key)(h1:∀ j e,es[j]?=some e->e.key=k->Q (some (j,e.val)) h)(h2:(∀ e∈es,e.key≠k)->Q none h):Sem.lwp P (Instr.findKey kt k es) Q E h:=by
 unfold Instr.findKey;rcases hk with⟨ht,n,rfl⟩|⟨ht,a,b,rfl⟩
 ·rw[lwp_bind,lwp_underlying (isI64_und ht)];have hes':∀ e∈es,∃ m,e.key=.int .i64 m:=by
   intro e he;rcases hes e he with⟨_,m,hm⟩|⟨ht',_⟩
   ·exact⟨m,hm⟩
   ·obtain⟨f,g,hu,_⟩:=twoInts_spec ht';rw[isI64_und ht]at hu;cases hu
  rcases findNow_int (t:=kt) (n:=n) es 0 hes' with⟨j,e,g1,g2,g3⟩|⟨g1,g2⟩
  ·rw[g3];simp only[lwp_pure];have:=h1 j e g1 g2;simpa using this
  ·rw[g2];exact h2 g1
 ·obtain⟨f,g,hu,_⟩:=twoInts_spec ht;rw[lwp_bind,lwp_underlying hu];have hes':∀ e∈es,∃ c d,e.key=.agg #[.int .i64 c,.int .i64 d]:=by
   intro e he;rcases hes e he with⟨ht',_⟩|⟨_,c,d,hm⟩
   ·rw[isI64_und ht']at hu;cases hu
   ·exact⟨c,d,hm⟩
  cases es with
  | nil=>exact h2 fun e he=>by simp at he
  | cons e es =>
   obtain⟨c,d,hm⟩:=hes' e (by simp);have:Instr.findNow (.struct #[f,g]) (.agg #[.int .i64 a,.int .i64 b]) (e::es) 0=none:=by
    unfold Instr.findNow;rw[hm];rfl
   rw[this];refine lwp_findAsking ht (e::es) 0 hes' (fun j e' he' hk=>?_) h2;have:=h1 j e' he' hk;simpa using this
def MapAt(h:Cells)(m:Nat)(es:Array MapEntry):Prop:=∃ c,h m=some (true,.map es c)
theorem lwp_lookup{Q:Value->Cells->Prop}{t kt et:TypeId}{s b:Nat}{z:Value}{m:Nat}{es:Array MapEntry}{k:Value}{ok:Bool}(hu:P.underlying t=some (.map kt et))(hi:(P.info? et).map (fun i=>(i.size,i.bytes,i.zero))=some (s,b,some z))(hm:MapAt h m es)(hk:IsKey P kt k)(hes:∀ e∈es.toList,IsKey P kt e.key)
 (h1:∀ e∈es.toList,e.key=k->Q (if ok then .tuple #[e.val,.bool true] else e.val) h)(h2:(∀ e∈es.toList,e.key≠k)->Q (if ok then .tuple #[z,.bool false] else z) h):Sem.lwp P (Instr.lookup t (.map (some m)) k ok) Q E h:=by
 obtain⟨inf,g1,_,_,g4⟩:=info_of hi;obtain⟨c,hmc⟩:=hm;unfold Instr.lookup;rw[lwp_bind,lwp_underlying hu];simp only[lwp_bind];refine⟨_,_,hmc,trivial,?_⟩;show Sem.lwp P (_ >>= _) Q E h;rw[lwp_bind,lwp_pure,lwp_bind];refine lwp_checkKey hk ?_;rw[lwp_bind];refine lwp_findKey hk hes (fun j e he hek=>?_) fun hno=>?_
 ·simp only[lwp_pure,lwp_bind];have:=h1 e (List.mem_of_getElem? he) hek;cases ok<;>exact this
 ·simp only[lwp_bind,lwp_zeroValue g1 g4,lwp_pure];have:=h2 hno;cases ok<;>exact this
theorem sameBits_key{kt:TypeId}{k:Value}(hk:IsKey P kt k):Instr.sameBits 10000 k k=true:=by
 rcases hk with⟨_,n,rfl⟩|⟨_,a,b,rfl⟩
 ·simp[Instr.sameBits]
 ·rw[show (10000:Nat)=9999+1 from rfl];simp[Instr.sameBits]
theorem lwp_mapUpdate{Q:Unit->Cells->Prop}{t kt et:TypeId}{m:Nat}{es:Array MapEntry}{k v:Value}(hu:P.underlying t=some (.map kt et))(hm:MapAt h m es)(hk:IsKey P kt k)(hes:∀ e∈es.toList,IsKey P kt e.key)
 (hq:∀ es' c,(∀ e∈es'.toList,(e.key=k/\e.val=v)\/e∈es.toList)->(∃ e∈es'.toList,e.key=k)->(∀ e∈es.toList,∃ e'∈es'.toList,e'.key=e.key)->Q () (h.upd m (true,.map es' c))):Sem.lwp P (Instr.mapUpdate t (.map (some m)) k v) Q E h:=by
 obtain⟨c,hmc⟩:=hm;unfold Instr.mapUpdate;rw[lwp_bind,lwp_underlying hu];simp only[lwp_bind];refine⟨_,_,hmc,trivial,?_⟩;show Sem.lwp P (_ >>= _) _ E h;rw[lwp_bind];refine lwp_checkKey hk ?_;rw[lwp_bind];refine lwp_findKey hk hes (fun j e he hek=>?_) fun hno=>?_
 ·have he':es[j]?=some e:=by rw[<- Array.getElem?_toList];exact he
  simp only[lwp_bind,Instr.keyThatStays,he',Option.map_some,Option.getD_some,hek,sameBits_key hk,if_true,lwp_pure];refine⟨⟨_,hmc,trivial⟩,?_⟩;have hmem:∀ i:Nat,(es.modify j fun e=>{ e with key:=k,val:=v })[i]?=if i=j then (es[i]?).map (fun e=>{ e with key:=k,val:=v }) else es[i]?:=by
   intro i;rw[Array.getElem?_modify];by_cases hij:j=i
   ·subst hij;simp
   ·rw[if_neg hij,if_neg (Ne.symm hij)]
  refine hq _ _ (fun e2 he2=>?_) ⟨{ e with key:=k,val:=v },?_,rfl⟩ fun e2 he2=>?_
  ·obtain⟨i,hi,hie⟩:=List.getElem_of_mem he2;have h3:(es.modify j fun e=>{ e with key:=k,val:=v })[i]?=some e2:=by rw[<- Array.getElem?_toList,List.getElem?_eq_getElem hi,hie]
   rw[hmem]at h3;by_cases hij:i=j
   ·rw[if_pos hij]at h3;cases h4:es[i]? with
    | none=>rw[h4]at h3;cases h3
    | some e0=>rw[h4]at h3;simp only[Option.map_some,Option.some.injEq]at h3;subst h3;exact .inl ⟨rfl,rfl⟩
   ·rw[if_neg hij]at h3;right;exact List.mem_of_getElem? (i:=i) (by rw[Array.getElem?_toList];exact h3)
  ·refine List.mem_of_getElem? (i:=j) ?_;rw[Array.getElem?_toList,hmem,if_pos rfl,he'];rfl
  ·obtain⟨i,hi,hie⟩:=List.getElem_of_mem he2;have h3:es[i]?=some e2:=by rw[<- Array.getElem?_toList,List.getElem?_eq_getElem hi,hie]
   by_cases hij:i=j
   ·refine⟨{ e2 with key:=k,val:=v },List.mem_of_getElem? (i:=i) ?_,?_⟩
    ·rw[Array.getElem?_toList,hmem,if_pos hij,h3];rfl
    ·subst hij;rw[he']at h3;cases h3;exact hek.symm
   ·exact⟨e2,List.mem_of_getElem? (i:=i) (by rw[Array.getElem?_toList,hmem,if_neg hij,h3]),rfl⟩
 ·refine⟨⟨_,hmc,trivial⟩,?_⟩;refine hq _ _ (fun e2 he2=>?_) ⟨{ key:=k,val:=v,born:=c },by simp,rfl⟩ fun e2 he2=>⟨e2,by rw[Array.toList_push];exact List.mem_append_left _ he2,rfl⟩;simp only[Array.toList_push,List.mem_append,List.mem_singleton]at he2;rcases he2 with he2|rfl
  ·exact .inr he2
  ·exact .inl ⟨rfl,rfl⟩
variable {X:XP} {Q:Leaf->LH->Prop}
theorem t_makeMap{h:LH}{k:Value->T}{t:TypeId}(hk:∀ r,h.get r=none->(k (.map (some r))).wp X P Q { h with get:=h.get.upd r (true,.map #[] 0) }):(T.sem false (Instr.makeMap t none) k).wp X P Q h:=by
 refine t_sem (A:=fun v h'=>∃ r,h.get r=none/\v=.map (some r)/\h'=h.get.upd r (true,.map #[] 0)) ?_ (by rintro v h' ⟨r,hr,rfl,rfl⟩;exact hk r hr);unfold Instr.makeMap;rw[lwp_bind];intro r hr;exact⟨r,hr,rfl,rfl⟩
theorem t_lookup{h:LH}{K:Value->T}{t kt et:TypeId}{s b:Nat}{z:Value}{m:Nat}{es:Array MapEntry}{k:Value}{ok:Bool}(hu:P.underlying t=some (.map kt et))(hi:(P.info? et).map (fun i=>(i.size,i.bytes,i.zero))=some (s,b,some z))(hm:MapAt h.get m es)(hk:IsKey P kt k)(hes:∀ e∈es.toList,IsKey P kt e.key)
 (h1:∀ e∈es.toList,e.key=k->(K (if ok then .tuple #[e.val,.bool true] else e.val)).wp X P Q h)(h2:(∀ e∈es.toList,e.key≠k)->(K (if ok then .tuple #[z,.bool false] else z)).wp X P Q h):(T.sem false (Instr.lookup t (.map (some m)) k ok) K).wp X P Q h :=
 t_sem (A:=fun v h'=>h'=h.get/\(K v).wp X P Q h) (lwp_lookup hu hi hm hk hes (fun e he hek=>⟨rfl,h1 e he hek⟩) fun hno=>⟨rfl,h2 hno⟩) (by rintro v h' ⟨rfl,hw⟩;exact hw)
theorem t_mapUpdate{h:LH}{K:Value->T}{t kt et:TypeId}{m:Nat}{es:Array MapEntry}{k v:Value}(hu:P.underlying t=some (.map kt et))(hm:MapAt h.get m es)(hk:IsKey P kt k)(hes:∀ e∈es.toList,IsKey P kt e.key)
 (hq:∀ es' c,(∀ e∈es'.toList,(e.key=k/\e.val=v)\/e∈es.toList)->(∃ e∈es'.toList,e.key=k)->(∀ e∈es.toList,∃ e'∈es'.toList,e'.key=e.key)->(K undef).wp X P Q { h with get:=h.get.upd m (true,.map es' c) }):(T.sem false (Sem.bind (Instr.mapUpdate t (.map (some m)) k v) fun _=>pure (.tuple #[])) K).wp X P Q h:=by
 refine t_sem (A:=fun v h'=>v=undef/\(K undef).wp X P Q { h with get:=h' }) (Sem.lwp_bind _ _ (lwp_mapUpdate hu hm hk hes fun es' c a b d=>⟨rfl,hq es' c a b d⟩)) (by rintro v h' ⟨rfl,hw⟩;exact hw)
theorem t_struct{h:LH}{K:Value->T}{t:TypeId}{l:List (Nat×Value)}{v:Value}(hb:buildV P t l=some v)(hk:(K v).wp X P Q h):(T.sem false (Instr.build t l.toArray) K).wp X P Q h :=
 t_sem (A:=fun w h'=>w=v/\h'=h.get) (lwp_build hb ⟨rfl,rfl⟩) (by rintro w h' ⟨rfl,rfl⟩;exact hk)
theorem t_eq2{h:LH}{K:Value->T}{t:TypeId}{x y:Operand}{a b c d:Int}(ht:twoInts P t=true)(hg:P.eqGuardType P.depth t=false)(hk:(K (.bool (decide (a=c/\b=d)))).wp X P Q h) :
  (T.sem false (Sem.bind (eqGuard .eql t x y (.agg #[a,b]) (.agg #[c,d])) fun _=>binOp .eql t (.agg #[a,b]) (.agg #[c,d])) K).wp X P Q h:=by
 refine t_sem (A:=fun w h'=>w=.bool (decide (a=c/\b=d))/\h'=h.get) (Sem.lwp_bind _ _ ?_) (by rintro w h' ⟨rfl,rfl⟩;exact hk);unfold eqGuard;simp only[Bool.not_true,Bool.false_eq_true,if_false,lwp_bind,lwp_program,hg,Bool.not_false,if_true,lwp_pure];unfold binOp;rw[lwp_bind];exact lwp_equal2 ht ⟨rfl,rfl⟩
theorem t_ne2{h:LH}{K:Value->T}{t:TypeId}{x y:Operand}{a b c d:Int}(ht:twoInts P t=true)(hg:P.eqGuardType P.depth t=false)(hk:(K (.bool (!decide (a=c/\b=d)))).wp X P Q h) :
  (T.sem false (Sem.bind (eqGuard .neq t x y (.agg #[a,b]) (.agg #[c,d])) fun _=>binOp .neq t (.agg #[a,b]) (.agg #[c,d])) K).wp X P Q h:=by
 refine t_sem (A:=fun w h'=>w=.bool (!decide (a=c/\b=d))/\h'=h.get) (Sem.lwp_bind _ _ ?_) (by rintro w h' ⟨rfl,rfl⟩;exact hk);unfold eqGuard;simp only[Bool.not_true,Bool.false_eq_true,if_false,lwp_bind,lwp_program,hg,Bool.not_false,if_true,lwp_pure];unfold binOp;rw[lwp_bind];exact lwp_equal2 ht ⟨rfl,rfl⟩
theorem Hands.g{v:Value}{h₀:LH}{L:List (List Value)}(hH:Hands X P v h₀ L):HandsG X P v h₀ (fun (i:Nat) xs j=>L[i]?=some xs/\j=i+1) (fun i=>i=L.length) 0:=by
 intro y J E hJ hE hc h hle h0;refine CV.mono (hH y J E hJ hE (fun i h xs hl hx hj=>hc i h xs (i+1) hl ⟨hx,rfl⟩ hj) h hle h0) ?_;rintro b h' ⟨h1,h2|h2⟩
 ·exact⟨h1,.inl ⟨_,rfl,h2⟩⟩
 ·exact⟨h1,.inr h2⟩
theorem LH.add_none(h:LH):h.add (fun _=>none)=h:=by
 unfold LH.add;have:h.get.add (fun _=>none)=h.get:=by funext b;unfold Cells.add;cases h.get b<;>rfl
 rw[this]
theorem HandsG.f{v:Value}{h₀:LH}{S:Type}{nx:S->List Value->S->Prop}{fin:S->Prop}{s₀:S}(hH:HandsG X P v h₀ nx fin s₀):HandsF X P v h₀ (fun _=>none) nx fin s₀:=by
 intro y J E hJ hE hc h hle h0 _;rw[LH.add_none];exact hH y J E hJ hE hc h hle h0
theorem t_eachF{h h₀ hm:LH}{k₀:Cells}{v:Value}{init:List Value}{body:List Value->List Value->T}{kf kb kr:List Value->T}{ko:Nat->List Value->T}{S:Type}{nx:S->List Value->S->Prop}{fin:S->Prop}{s₀:S}(μ:S->Nat)(hμ:∀ s xs s',nx s xs s'->μ s'<μ s)
 (heq:h=hm.add k₀)(hdk:Disj hm.get k₀)(hle:h₀.le hm)(hH:HandsF X P v h₀ k₀ nx fin s₀)
 (I:S->List Value->LH->Prop)(h0:I s₀ init hm)
 (hend:∀ s vs h',fin s->h₀.le h'->I s vs h'->(kf vs).wp X P Q h')
 (hb:∀ s xs s' vs h',nx s xs s'->h₀.le h'->I s vs h'->∀ Y:List Value->LH->Prop,(∀ vs' h'',h₀.le h''->I s' vs' h''->Y vs' h'') ->
   (body xs vs).wp X P (fun l h''=>h₀.le h''/\l.go h'' Y (fun vs h'=>(kb vs).wp X P Q h') (fun vs h'=>(kr vs).wp X P Q h') (fun j vs h'=>(ko j vs).wp X P Q h')) h'):(T.each v init body kf kb kr ko).wp X P Q h:=by
 refine⟨S,nx,fin,s₀,h₀,hm,k₀,heq,hdk,hle,hH,fun Y hY=>?_⟩;have key:∀ n s,μ s=n->∀ vs h',h₀.le h'->I s vs h'->Y s vs h':=by
  intro n
  induction n using Nat.strongRecOn with
  | ind n ih =>
   intro s hs vs h' hl hi;refine hY s vs h' hl (fun hf=>hend s vs h' hf hl hi) fun xs s' hn=>?_;exact hb s xs s' vs h' hn hl hi _ fun vs' h'' hl'' hi''=>ih (μ s') (hs▸hμ s xs s' hn) s' rfl vs' h'' hl'' hi''
 exact key _ s₀ rfl init hm hle h0
theorem t_eachG{h h₀:LH}{v:Value}{init:List Value}{body:List Value->List Value->T}{kf kb kr:List Value->T}{ko:Nat->List Value->T}{S:Type}{nx:S->List Value->S->Prop}{fin:S->Prop}{s₀:S}(μ:S->Nat)(hμ:∀ s xs s',nx s xs s'->μ s'<μ s)(hle:h₀.le h)(hH:HandsG X P v h₀ nx fin s₀)
 (I:S->List Value->LH->Prop)(h0:I s₀ init h)
 (hend:∀ s vs h',fin s->h₀.le h'->I s vs h'->(kf vs).wp X P Q h')
 (hb:∀ s xs s' vs h',nx s xs s'->h₀.le h'->I s vs h'->∀ Y:List Value->LH->Prop,(∀ vs' h'',h₀.le h''->I s' vs' h''->Y vs' h'') ->
   (body xs vs).wp X P (fun l h''=>h₀.le h''/\l.go h'' Y (fun vs h'=>(kb vs).wp X P Q h') (fun vs h'=>(kr vs).wp X P Q h') (fun j vs h'=>(ko j vs).wp X P Q h')) h'):(T.each v init body kf kb kr ko).wp X P Q h:=by
 exact t_eachF μ hμ (hm:=h) (k₀:=fun _=>none) (LH.add_none h).symm (fun _=>.inr rfl) hle (hH.f) I h0 hend hb
theorem t_each{h h₀:LH}{v:Value}{init:List Value}{body:List Value->List Value->T}{kf kb kr:List Value->T}{ko:Nat->List Value->T}{L:List (List Value)}(hle:h₀.le h)(hH:Hands X P v h₀ L)(I:Nat->List Value->LH->Prop)(h0:I 0 init h)
 (hend:∀ vs h',h₀.le h'->I L.length vs h'->(kf vs).wp X P Q h')
 (hb:∀ i xs vs h',L[i]?=some xs->h₀.le h'->I i vs h'->∀ Y:List Value->LH->Prop,(∀ vs' h'',h₀.le h''->I (i+1) vs' h''->Y vs' h'') ->
   (body xs vs).wp X P (fun l h''=>h₀.le h''/\l.go h'' Y (fun vs h'=>(kb vs).wp X P Q h') (fun vs h'=>(kr vs).wp X P Q h') (fun j vs h'=>(ko j vs).wp X P Q h')) h'):(T.each v init body kf kb kr ko).wp X P Q h:=by
 refine t_eachG (fun i=>L.length-i) (fun i xs j hn=>?_) hle hH.g I h0 (fun s vs h' hf hl hi=>hend vs h' hl (hf▸hi)) fun i xs j vs h' hn hl hi=>?_
 ·have:=(List.getElem?_eq_some_iff.1 hn.1).1;have:=hn.2;omega
 ·obtain⟨h1,rfl⟩:=hn;exact hb i xs vs h' h1 hl hi
end
section
theorem OwnRow.le{el:TypeId}{k:Nat}{h h':Cells}{p:Option Addr}{n c:Nat}{vs:List Value}(hl:h.le h')(o:OwnRow el k h p n c vs):OwnRow el k h' p n c vs:=by
 obtain⟨h1,h2|⟨r,cs,e1,e2,e3,e4,e5⟩⟩:=o
 ·exact⟨h1,.inl h2⟩
 ·exact⟨h1,.inr ⟨r,cs,e1,hl _ _ e2,e3,e4,e5⟩⟩
def NewIn(h₀:Cells)(p:Option Addr):Prop:=∀ a,p=some a->h₀ a.block=none
theorem NewIn.none{h₀:Cells}:NewIn h₀ none:=fun a h=>by cases h
theorem after_append{h₀ h h':Cells}{p p':Option Addr}(hle:h₀.le h)(hp:NewIn h₀ p)(hk:KeptBut p h h')(hp':p'=p\/∃ r,p'=some ⟨r,0,none⟩/\h r=none):h₀.le h'/\NewIn h₀ p':=by
 refine⟨fun r x hr=>hk r x (hle r x hr) fun a ha e=>?_,?_⟩
 ·have:=hp a ha;rw[e,hr]at this;cases this
 ·rcases hp' with rfl|⟨r,rfl,hr⟩
  ·exact hp
  ·intro a ha;cases ha;cases hx:h₀ r with
   | none=>rfl
   | some x=>rw[hle _ _ hx]at hr;cases hr
inductive Rows{α:Type}(Enc:α->List Value->Prop):List Value->List α->Prop
 | nil:Rows Enc [] []
 | snoc {vs:List Value} {l:List α} {x:α} {ws:List Value}:Rows Enc vs l->Enc x ws->Rows Enc (vs++ws) (l++[x])
theorem Rows.len{α:Type}{Enc:α->List Value->Prop}{k:Nat}(hk:∀ x ws,Enc x ws->ws.length=k){vs:List Value}{l:List α}(r:Rows Enc vs l):vs.length=l.length*k:=by
 induction r with
 | nil=>simp
 | snoc r he ih=>simp[ih,hk _ _ he,Nat.add_mul]
theorem Rows.at{α:Type}{Enc:α->List Value->Prop}{k:Nat}(hk:∀ x ws,Enc x ws->ws.length=k){vs:List Value}{l:List α}(r:Rows Enc vs l):∀ (i:Nat) x,l[i]?=some x->∃ ws,Enc x ws/\∀ (j:Nat) w,ws[j]?=some w->vs[i*k+j]?=some w:=by
 induction r with
 | nil=>intro i x h;simp at h
 | snoc r he ih =>
  rename_i vs l y ws;intro i x hi;have hlen:=r.len hk;by_cases hlt:i<l.length
  ·rw[List.getElem?_append_left hlt]at hi;obtain⟨us,h1,h2⟩:=ih i x hi;refine⟨us,h1,fun j w hj=>?_⟩;have hjl:j<us.length:=(List.getElem?_eq_some_iff.1 hj).1;rw[hk _ _ h1]at hjl;have:i*k+j<vs.length:=by
    rw[hlen]
    calc i*k+j<i*k+k:=by omega
     _=(i+1)*k:=by rw[Nat.add_mul];omega
     _<=l.length*k:=Nat.mul_le_mul_right _ hlt
   rw[List.getElem?_append_left this];exact h2 j w hj
  ·have hil:i=l.length:=by
    have:=(List.getElem?_eq_some_iff.1 hi).1;simp at this;omega
   subst hil;rw[List.getElem?_append_right (Nat.le_refl _),Nat.sub_self]at hi;simp at hi;subst hi;refine⟨ws,he,fun j w hj=>?_⟩;rw[List.getElem?_append_right (by omega),hlen];rw[show l.length*k+j-l.length*k=j by omega];exact hj
theorem Rows.sl{α:Type}{E:Cells->Addr->α->Prop}{Enc:α->List Value->Prop}{el:TypeId}{k:Nat}{h':Cells}{p:Option Addr}{n c:Nat}{vs:List Value}{l:List α}(hk:∀ x ws,Enc x ws->ws.length=k)(hpos:0<k)(hE:∀ a x ws,Enc x ws->(∀ (j:Nat) w,ws[j]?=some w->h'.cell? (a.add j)=some w)->E h' a x)
 (own:OwnRow el k h' p n c vs)(r:Rows Enc vs l)(hb:l.length<4611686018427387904):Sl E k h' p n l:=by
 have hlen:=r.len hk;obtain⟨h1,h2⟩:=own;have hn:n=l.length:=Nat.eq_of_mul_eq_mul_right hpos (h1.symm.trans hlen);refine⟨hn,hb,fun i x hx=>?_⟩;obtain⟨ws,e1,e2⟩:=r.at hk i x hx;rcases h2 with⟨rfl,rfl,rfl⟩|⟨b,cs,rfl,hr,hcs,hnc,hv⟩
 ·have:l=[]:=List.eq_nil_of_length_eq_zero hn.symm;subst this;simp at hx
 ·refine⟨_,rfl,hE _ _ _ e1 fun j w hj=>?_⟩;rw[add_plain,add_plain,Nat.zero_add];simp only[Cells.cell?,hr,Option.isSome_none,Bool.false_eq_true,if_false];exact hv _ _ (e2 j w hj)
def IntEnc(x:Int)(ws:List Value):Prop:=ws=[.int .i64 x]
theorem IntEnc.len:∀ x ws,IntEnc x ws->ws.length=1:=by rintro x _ rfl;rfl
theorem IntEnc.e{h':Cells}:∀ a x ws,IntEnc x ws->(∀ (j:Nat) w,ws[j]?=some w->h'.cell? (a.add j)=some w)->IntE h' a x:=by
 rintro a x _ rfl hc;exact hc 0 _ rfl
structure Growing{α:Type}(Enc:α->List Value->Prop)(el:TypeId)(k:Nat)(h₀ h:Cells)(p:Option Addr)(n c:Nat)(l:List α):Prop where
 row:∃ vs,OwnRow el k h p n c vs/\Rows Enc vs l
 new:NewIn h₀ p
theorem Growing.nil{α:Type}{Enc:α->List Value->Prop}{el:TypeId}{k:Nat}{h₀ h:Cells}:Growing Enc el k h₀ h none 0 0 []:=⟨⟨[],OwnRow.nil,.nil⟩,NewIn.none⟩
theorem Growing.le{α:Type}{Enc:α->List Value->Prop}{el:TypeId}{k:Nat}{h₀ h h':Cells}{p:Option Addr}{n c:Nat}{l:List α}(hl:h.le h')(g:Growing Enc el k h₀ h p n c l):Growing Enc el k h₀ h' p n c l:=by
 obtain⟨vs,h1,h2⟩:=g.row;exact⟨⟨vs,h1.le hl,h2⟩,g.new⟩
theorem Growing.mv{α:Type}{Enc:α->List Value->Prop}{el:TypeId}{k m:Nat}{h₀:Cells}{h h':LH}{p:Option Addr}{n c:Nat}{l:List α}(hm:∃ es c,h.get m=some (true,.map es c))(hl:Mv m h h')(g:Growing Enc el k h₀ h.get p n c l):Growing Enc el k h₀ h'.get p n c l:=by
 obtain⟨vs,⟨h1,h2⟩,h3⟩:=g.row;refine⟨⟨vs,⟨h1,?_⟩,h3⟩,g.new⟩;rcases h2 with h2|⟨r,cs,e1,e2,e3⟩
 ·exact .inl h2
 ·refine .inr ⟨r,cs,e1,hl.keep _ _ ?_ e2,e3⟩;rintro rfl;obtain⟨es,c',hm⟩:=hm;rw[hm]at e2;cases e2
theorem Growing.count{α:Type}{Enc:α->List Value->Prop}{el:TypeId}{k:Nat}{h₀ h:Cells}{p:Option Addr}{n c:Nat}{l:List α}(hk:∀ x ws,Enc x ws->ws.length=k)(hpos:0<k)(g:Growing Enc el k h₀ h p n c l):n=l.length:=by
 obtain⟨vs,h1,h2⟩:=g.row;exact Nat.eq_of_mul_eq_mul_right hpos (h1.1.symm.trans (h2.len hk))
theorem Growing.sl{α:Type}{E:Cells->Addr->α->Prop}{Enc:α->List Value->Prop}{el:TypeId}{k:Nat}{h₀ h:Cells}{p:Option Addr}{n c:Nat}{l:List α}(hk:∀ x ws,Enc x ws->ws.length=k)(hpos:0<k)(hE:∀ a x ws,Enc x ws->(∀ (j:Nat) w,ws[j]?=some w->h.cell? (a.add j)=some w)->E h a x)
 (g:Growing Enc el k h₀ h p n c l)(hb:l.length<4611686018427387904):Sl E k h p n l:=by
 obtain⟨vs,h1,h2⟩:=g.row;exact h2.sl hk hpos hE h1 hb
section
variable {P:Program} {X:XP} {Q:Leaf->LH->Prop}
theorem t_grow{α:Type}{Enc:α->List Value->Prop}{h h₀:LH}{k:Value->T}{ts:Array TypeId}{ty sT xT el xe:TypeId}{s by_:Nat}{z:Value}{p:Option Addr}{n c mc:Nat}{b:Addr}{l:List α}{x:α}{ws:List Value}(h0:ts[0]?=some sT)(h1:ts[1]?=some xT)(hu:P.underlying sT=some (.slice el))(hx:P.underlying xT=some (.slice xe))
 (hi:(P.info? el).map (fun i=>(i.size,i.bytes,i.zero))=some (s,by_,some z))(hsz:z.cells.size=s)(hb:by_<=1024)(hn:n+1<=2^30)(g:Growing Enc el s h₀.get h.get p n c l)(hle:h₀.le h)(he:Enc x ws)(hl:ws.length=s)(hc:∀ (j:Nat) v,ws[j]?=some v->h.get.cell? (b.add j)=some v)(one:∀ v∈ws,isOne v=true)
 (hk:∀ p' c' h',h₀.le h'->(∀ r y,(∀ a,p=some a->a.block≠r)->h.get r=some y->h'.get r=some y)->Growing Enc el s h₀.get h'.get p' (n+1) c' (l++[x])->(k (.slice p' (n+1) c')).wp X P Q h'):(T.sem false (Builtin.append_ ts ty #[.slice p n c,.slice (some b) 1 mc]) k).wp X P Q h:=by
 obtain⟨vs,o,r⟩:=g.row;refine t_append h0 h1 hu hx hi hsz hb hn o (by rw[hl,Nat.one_mul]) hc one (by omega) fun p' c' h' a b c=>?_;obtain⟨l1,l2⟩:=after_append hle.1 g.new b c;refine hk p' c' _ ⟨l1,hle.2⟩ (fun r y hr hy=>b r y hy hr) ⟨⟨vs++ws,a,.snoc r he⟩,l2⟩
end
end
end Go.TM
