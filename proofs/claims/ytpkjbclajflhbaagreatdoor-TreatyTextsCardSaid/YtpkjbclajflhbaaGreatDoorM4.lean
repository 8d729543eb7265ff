/- Contracts and laws for the proof, joined by a program. No condition. -/
import Derived.Test.YtpkjbclajflhbaaGreatDoorM3
set_option linter.all false
noncomputable section
open Go Go.Conc Go.TM Go.Proofs
set_option maxRecDepth 100000
open Go.IntKind (wrap)
section
namespace Go.Y
open Go.ChangeShapes Go.WideShapes Go.RowKit
end Go.Y
namespace Go.Y.Tre
open Go.Proofs.YtpkjbclajflhbaaGreatDoor
open Go.ChangeShapes Go.WideShapes Go.RowKit
variable {W:World}{sp:Nat->Bool}{fuel:Nat}{cs:List Value}{a b:Bool}
theorem own:ownKnob Tryz.prog.godebug=none:=by kernel_rfl
theorem lo:laidOutB Tryz.prog=true:=by kernel_rfl
theorem TT:TreatyTy Tryz.prog 3 47 118 120 36 38 where
 int:=by kernel_rfl
 int1:=by kernel_rfl
 kind:=by kernel_rfl
 kind1:=by kernel_rfl
 bytes:=⟨of_decide_eq_true (by kernel_rfl),of_decide_eq_true (by kernel_rfl)⟩
 ints:=by kernel_rfl
 ints1:=by kernel_rfl
 ev:=⟨_,Tryz.underlying120,rfl⟩
 ev5:=by kernel_rfl
 evs:=by kernel_rfl
 evs1:=by kernel_rfl
 file:=⟨_,Tryz.underlying38,rfl⟩
 file7:=by kernel_rfl
def kindsN : String := "touchmark/treaty.kinds"
def boundN : String := "touchmark/treaty.bound"
theorem gKinds:Tryz.prog.globalNamed kindsN=some 1:=by kernel_rfl
theorem gBound:Tryz.prog.globalNamed boundN=some 3:=by kernel_rfl
theorem tKinds:(Tryz.prog.globals[1]?).map (·.type)=some 137:=by kernel_rfl
theorem tBound:(Tryz.prog.globals[3]?).map (·.type)=some 134:=by kernel_rfl
theorem uses_of{H:Type}{enc:TypeId×Value->H}{held:Bool}{x:DataW H×List MemPlace}(h:DataW.trod enc Tryz.prog W 0 sp held fuel 134 cs=some x)(c:x.1=.agg [.lit (.bool a),.lit (.bool b)]):cs=[.bool a,.bool b]:=by
 obtain⟨m,n,_,rfl,g,hlen,f⟩:=DataW.trod_struct Tryz.underlying134 h;rw[show Tryz.prog.cellsOf 134=2 by kernel_rfl]at g
 match cs,g,m,hlen with
 | [v0,v1],_,[k,l],_ =>
  have h0:DataW.trod enc Tryz.prog W 0 sp held n 4 (([v0,v1].drop 0).take (Tryz.prog.cellsOf 4))=some k:=f 0 _ rfl;have h1:DataW.trod enc Tryz.prog W 0 sp held n 4 (([v0,v1].drop 1).take (Tryz.prog.cellsOf 4))=some l:=f 1 _ rfl;rw[show Tryz.prog.cellsOf 4=1 by kernel_rfl]at h0 h1;obtain⟨b0,d,i⟩:=DataW.trod_bool Tryz.underlying4 h0;obtain⟨b1,e,j⟩:=DataW.trod_bool Tryz.underlying4 h1;simp at d e;simp[i,j]at c;rw[d,e,c.1,c.2]
theorem Hj{x:DataW (List UInt8)×List MemPlace}{s:List UInt8}{c:UInt8}{r:List UInt8}{f0:FuncId}(d:((List.range Tryz.prog.funcs.size).filter fun f=>(Tryz.prog.funcs[f]?).any (·.name.toUTF8.data.toList==c::r))=[f0])
 (h:DataW.trod (funcToken Tryz.prog) Tryz.prog W 0 sp true fuel 136 cs=some x)(m:x.1=.agg [.lit (.string s),.agg [.lit (.bool a),.lit (.bool b)],.held (c::r)]):∃ v0,cs=[v0,.bool a,.bool b,.func (.func f0) #[] #[]]:=by
 obtain⟨t,n,_,rfl,l,hlen,k⟩:=DataW.trod_struct Tryz.underlying136 h;rw[show Tryz.prog.cellsOf 136=4 by kernel_rfl]at l
 match cs,l,t,hlen with
 | [v0,v1,v2,j],_,[w,o,p],_ =>
  have h1:DataW.trod (funcToken Tryz.prog) Tryz.prog W 0 sp true n 134 (([v0,v1,v2,j].drop 1).take (Tryz.prog.cellsOf 134))=some o:=k 1 _ rfl;have h2:DataW.trod (funcToken Tryz.prog) Tryz.prog W 0 sp true n 28 (([v0,v1,v2,j].drop 3).take (Tryz.prog.cellsOf 28))=some p:=k 2 _ rfl;rw[show Tryz.prog.cellsOf 134=2 by kernel_rfl]at h1;rw[show Tryz.prog.cellsOf 28=1 by kernel_rfl]at h2;simp only[List.map_cons,List.map_nil,DataW.agg.injEq,List.cons.injEq,and_true]at m;obtain⟨_,e,g⟩:=m;obtain⟨d1,u⟩:=o;obtain⟨d2,v⟩:=p;simp only at e g;subst e;subst g;have i:=uses_of h1 rfl;simp at i;rw[i.1,i.2];refine⟨v0,?_⟩;have q:j=.func (.func f0) #[] #[]:=Go.func_of_trod (P:=Tryz.prog) Tryz.underlying28 d h2;rw[q]
theorem Yz:((List.range Tryz.prog.funcs.size).filter fun f=>(Tryz.prog.funcs[f]?).any (·.name.toUTF8.data.toList==[116,111,117,99,104,109,97,114,107,47,116,114,101,97,116,121,46,121,101,115]))=[294]:=by kernel_rfl
theorem Y9:((List.range Tryz.prog.funcs.size).filter fun f=>(Tryz.prog.funcs[f]?).any (·.name.toUTF8.data.toList==[116,111,117,99,104,109,97,114,107,47,116,114,101,97,116,121,46,110,111]))=[295]:=by kernel_rfl
theorem array7{α:Type}:∀ {l:List α},l.length=7->∃ a b c d e f g,l=[a,b,c,d,e,f,g]
 | [a,b,c,d,e,f,g],_=>⟨a,b,c,d,e,f,g,rfl⟩
theorem four_cells{i:Nat}{v0 v1 v2 a:Value}(h:(cs.drop (i*4)).take 4=[v0,v1,v2,a]):cs[i*4+1]?=some v1/\cs[i*4+2]?=some v2/\cs[i*4+3]?=some a:=by
 have key:∀ j,j<4->cs[i*4+j]?=[v0,v1,v2,a][j]?:=by
  intro j b;rw[<- h,List.getElem?_take,if_pos b,List.getElem?_drop]
 exact⟨key 1 (by omega),key 2 (by omega),key 3 (by omega)⟩
theorem laid_at{P:Program}{w:World}{n:String}{d:DataW Unit}:∀ {l:List (String×DataW Unit)} {ps:List MemPlace},DataW.LaidVars P w l ps->(n,d)∈l->∃ g t cs fuel p,P.globalNamed n=some g/\(P.globals[g]?).map (·.type)=some t/\w.var? P n=some cs/\DataW.trod (fun _=>()) P w 0 (fun _=>true) false fuel t cs.toList=some (d,p)
 | [],_,_,h=>by simp at h
 | (m,e)::r,ps,h,hm=>by
  obtain⟨g,t,cs,fuel,p,q,h1,h2,h3,b,h5,_⟩:=h;rcases List.mem_cons.1 hm with a|a
  ·cases a;exact⟨g,t,cs,fuel,p,h1,h2,h3,b⟩
  ·exact laid_at h5 a
theorem kinds_of_laid{l:List (String×DataW Unit)}(h:laidMetH Tryz.prog l W)(F:(kindsN,Rows.laid_touchmark_treaty_kinds)∈l)(r:(boundN,Rows.laid_touchmark_treaty_bound)∈l):Kinds (getW W):=by
 obtain⟨g,t,cs,fuel,p,E,H,hv,D⟩:=laidMetH.funcs h (n:=kindsN) F;obtain rfl:=Option.some.inj (gKinds.symm.trans E);obtain rfl:=Option.some.inj (tKinds.symm.trans H);obtain⟨xs,m,_,o,I,G,k⟩:=DataW.trod_array Tryz.underlying137 D;have a:∀ j:Nat,W.cell? ⟨1,j,none⟩=cs[j]?:=World.var?_cell gKinds hv;obtain⟨K,L,M,N,O,P,Q,rfl⟩:=array7 G;have x:Tryz.prog.cellsOf 136=4:=by kernel_rfl
 simp only[Prod.mk.injEq]at o;obtain⟨o,_⟩:=o;simp only[DataW.funcsOut,DataW.funcsOutAll,List.map_cons,List.map_nil,DataW.agg.injEq,List.cons.injEq,beq_self_eq_true,if_true,and_true]at o;obtain⟨y,z,A,B,g4,g5,g6⟩:=o;rw[x]at k;have key:∀ i,i<7->∃ v0,(cs.toList.drop (i*4)).take 4=[v0,.bool (landK i),.bool (sinceK i),.func (.func (if givesK i then 294 else 295)) #[] #[]]:=by
  intro i d;have b:=k i d
  match i,d with
  | 0,_=>exact Hj Yz b y.symm
  | 1,_=>exact Hj Y9 b z.symm
  | 2,_=>exact Hj Yz b A.symm
  | 3,_=>exact Hj Y9 b B.symm
  | 4,_=>exact Hj Y9 b g4.symm
  | 5,_=>exact Hj Yz b g5.symm
  | 6,_=>exact Hj Y9 b g6.symm
 have cell:∀ i,i<7->cs[i*4+1]?=some (.bool (landK i))/\cs[i*4+2]?=some (.bool (sinceK i))/\cs[i*4+3]?=some (.func (.func (if givesK i then 294 else 295)) #[] #[]):=by
  intro i d;obtain⟨v0,h0⟩:=key i d;have:=four_cells h0;simpa using this
 obtain⟨ps,C,_⟩:=(laidMetH_iff.1 h).1;obtain⟨g',t',e,q,J,u,v,w,s⟩:=laid_at C (List.mem_filter.2 ⟨r,rfl⟩);obtain rfl:=Option.some.inj (gBound.symm.trans u);obtain rfl:=Option.some.inj (tBound.symm.trans v);have hb:=uses_of s rfl;have c:∀ j:Nat,W.cell? ⟨3,j,none⟩=e[j]?:=World.var?_cell gBound w;have f:∀ j:Nat,e[j]?=[Value.bool true,.bool false][j]?:=fun j=>by rw[<- hb];simp
 exact⟨fun i d=>Kj (by rw[a];exact(cell i d).1),fun i d=>Kj (by rw[a];exact(cell i d).2.1),fun i d=>Kj (by rw[a];exact(cell i d).2.2),Kj (by rw[c,f];rfl),Kj (by rw[c,f];rfl)⟩
def noTreaty:Value:=.agg #[.int .i64 0,.int .i64 0,.int .i64 0,.int .i64 0,.int .i64 0,.int .i64 0,.slice none 0 0]
end Go.Y.Tre
end
namespace Go.TM
section
variable {P:Program} {E:Halt->Cells->Prop}
variable {h:LH}{es:Array MapEntry}{c m r:Nat}{l:List Int}{kt t et:TypeId}{K:Value->T}{b:Bool}
theorem Dg{α:Type}{a:α}{Q:α->Cells->Prop}{h:Cells}:Qe P (Sem.pure a) Q E h=Q a h:=rfl
structure Keys(es:Array MapEntry)(c:Nat)(l:List Int):Prop where
 keys:es.toList.map (·.key)=l.map (Value.int .i64)
 nodup:l.Nodup
 born:(es.toList.map (·.born)).Nodup
 lt:∀ e∈es.toList,e.born<c
def MapOf(h:Cells)(m:Nat)(l:List Int):Prop:=∃ es c,h m=some (true,.map es c)/\Keys es c l
theorem Keys.nil:Keys #[] 0 []:=⟨rfl,List.nodup_nil,List.nodup_nil,fun e he=>by simp at he⟩
theorem Keys.isKey(k:Keys es c l)(b:Gd P kt=true):∀ e∈es.toList,IsKey P kt e.key:=by
 intro e he;have:e.key∈es.toList.map (·.key):=List.mem_map.2 ⟨e,he,rfl⟩;rw[k.keys]at this;obtain⟨n,_,a⟩:=List.mem_map.1 this;exact .inl ⟨b,n,a.symm⟩
variable {X:XP} {Q:Leaf->LH->Prop}
theorem Yf{k:Int}{v:Value}(hu:P.underlying t=some (.map kt et))(D:Gd P kt=true)(hm:MapOf h.get m l)
 (C:∀ es c E,(h.get.upd m (true,.map es c)) m=some (true,.map es c)->Keys es c E->(∀ x,x∈E↔x=k\/x∈l)->(K undef).wp X P Q { h with get:=h.get.upd m (true,.map es c) }):(T.sem false (Sem.bind (Instr.mapUpdate t (.map (some m)) (.int .i64 k) v) fun _=>pure (.tuple #[])) K).wp X P Q h:=by
 obtain⟨es,c,r,d⟩:=hm;refine Jh (A:=fun v h'=>v=undef/\(K undef).wp X P Q { h with get:=h' }) (Qz _ _ ?_) (by rintro v h' ⟨rfl,hw⟩;exact hw);unfold Instr.mapUpdate;rw[lwp_bind,Qd hu];simp only[lwp_bind];refine⟨_,_,r,trivial,?_⟩;show Qe P (_ >>= _) _ _ _;rw[lwp_bind];have o:IsKey P kt (.int .i64 k):=.inl ⟨D,k,rfl⟩;refine lwp_checkKey o ?_;rw[lwp_bind];refine lwp_findKey o (d.isKey D) (fun j e he q=>?_) fun z=>?_
 ·have w:es[j]?=some e:=by rw[<- Array.getElem?_toList];exact he
  simp only[lwp_bind,Instr.keyThatStays,w,Option.map_some,Option.getD_some,q,sameBits_key o,if_true,Qg];refine⟨⟨_,r,trivial⟩,?_⟩;have p:(es.modify j fun e=>{ e with key:=.int .i64 k,val:=v }).toList=es.toList.modify j fun e=>{ e with key:=.int .i64 k,val:=v }:=by simp
  have H:j<es.toList.length:=(List.getElem?_eq_some_iff.1 he).1;have s:((es.modify j fun e=>{ e with key:=.int .i64 k,val:=v }).toList).map (·.key)=es.toList.map (·.key):=by
   rw[p];refine List.ext_getElem? fun i=>?_;rw[List.getElem?_map,List.getElem?_map,List.getElem?_modify];by_cases g:j=i
   ·subst g;simp[he,q]
   ·simp[g]
  have f:((es.modify j fun e=>{ e with key:=.int .i64 k,val:=v }).toList).map (·.born)=es.toList.map (·.born):=by
   rw[p];refine List.ext_getElem? fun i=>?_;rw[List.getElem?_map,List.getElem?_map,List.getElem?_modify];by_cases g:j=i
   ·subst g;simp[he]
   ·simp[g]
  refine⟨rfl,C _ _ l (Qn _ _ _) ⟨s.trans d.keys,d.nodup,by rw[f];exact d.born,fun B y=>?_⟩ fun x=>?_⟩
  ·have:B.born∈es.toList.map (·.born):=by rw[<- f];exact List.mem_map.2 ⟨B,y,rfl⟩
   obtain⟨F,h3,G⟩:=List.mem_map.1 this;rw[<- G];exact d.lt F h3
  ·have:Value.int .i64 k∈l.map (Value.int .i64):=by rw[<- d.keys];exact List.mem_map.2 ⟨e,List.mem_of_getElem? he,q⟩
   obtain⟨n,h1,h2⟩:=List.mem_map.1 this;cases h2;exact⟨.inr,fun h=>h.elim (fun e=>e▸h1) id⟩
 ·refine⟨⟨_,r,trivial⟩,rfl,C _ _ (l++[k]) (Qn _ _ _) ⟨?_,?_,?_,?_⟩ fun x=>?_⟩
  ·simp[d.keys]
  ·refine List.nodup_append.2 ⟨d.nodup,by simp,fun a u b hb e=>?_⟩;simp at hb;subst hb;subst e;have:Value.int .i64 a∈es.toList.map (·.key):=by rw[d.keys];exact List.mem_map.2 ⟨a,u,rfl⟩
   obtain⟨e,h1,h2⟩:=List.mem_map.1 this;exact z e h1 h2
  ·simp only[Array.toList_push,List.map_append,List.map_cons,List.map_nil];refine List.nodup_append.2 ⟨d.born,by simp,fun a u b hb e=>?_⟩;simp at hb;subst hb;subst e;obtain⟨e,h1,h2⟩:=List.mem_map.1 u;have:=d.lt e h1;omega
  ·intro e he;simp only[Array.toList_push,List.mem_append,List.mem_singleton]at he;rcases he with he|rfl
   ·have:=d.lt e he;omega
   ·exact Nat.lt_succ_self _
  ·simp[or_comm]
def NextKey(es:Array MapEntry)(seen:Array Nat)(xs:List Value)(seen':Array Nat):Prop:=∃ e∈es.toList,e.born∉seen.toList/\xs=[e.key]/\seen'=seen.push e.born
def AllSeen(es:Array MapEntry)(seen:Array Nat):Prop:=∀ e∈es.toList,e.born∈seen.toList
theorem t_range(hu:P.underlying t=some (.map kt et))(hm:h.get m=some (b,.map es c))
 (a:∀ r,h.get r=none->(K (.pointer (some ⟨r,0,none⟩))).wp X P Q { h with get:=h.get.upd r (true,.mapIter (some m) c #[] c) }):(T.sem false (Instr.range t (.map (some m))) K).wp X P Q h:=by
 refine Jh (A:=fun v h'=>∃ r,h.get r=none/\v=.pointer (some ⟨r,0,none⟩)/\h'=h.get.upd r (true,.mapIter (some m) c #[] c)) ?_ (by rintro v h' ⟨r,hr,rfl,rfl⟩;exact a r hr);unfold Instr.range;simp only[lwp_bind,Qd hu];refine⟨_,_,hm,trivial,?_⟩;show Qe P (pure _) _ _ _;rw[Qg];intro r hr;exact⟨r,hr,rfl,rfl⟩
theorem t_next{ty:TypeId}{seen:Array Nat}(hr:h.get r=some (true,.mapIter (some m) c seen c))(hm:h.get m=some (b,.map es c))(hlt:∀ e∈es.toList,e.born<c)
 (hend:AllSeen es seen->(K (.tuple #[.bool false])).wp X P Q h)
 (hk:∀ e∈es.toList,e.born∉seen.toList->(K (.tuple #[.bool true,e.key,e.val])).wp X P Q { h with get:=h.get.upd r (true,.mapIter (some m) c (seen.push e.born) c) }):(T.sem false (Instr.next (.pointer (some ⟨r,0,none⟩)) false ty) K).wp X P Q h:=by
 refine Jh (A:=fun v h'=>(K v).wp X P Q { h with get:=h' }) ?_ (fun v h' hw=>hw);unfold Instr.next;simp only[lwp_bind];refine⟨_,_,hr,trivial,?_⟩;show Qe P (_ >>= _) _ _ _;rw[lwp_bind];refine⟨_,_,hm,trivial,?_⟩;have hall:(!seen.isEmpty&&!es.isEmpty&&es.all fun x=>decide (x.born>=c))=false:=by
  cases he:es.toList with
  | nil =>
   have:es=#[]:=by rw[<- Array.toList_inj,he]
   simp[this]
  | cons e l =>
   have h1:=hlt e (by rw[he];simp);have h2:(es.all fun x=>decide (x.born>=c))=false:=by
    rw[<- Array.all_toList,he];simp;omega
   simp[h2]
 simp only[Dg,hall,Bool.false_eq_true,if_false,lwp_bind,Qg];have hold:((es.filter fun e=>!seen.contains e.born).filter fun x=>decide (x.born<c))=es.filter fun e=>!seen.contains e.born:=by
  rw[Array.filter_eq_self];intro e he;have:=hlt e (Array.mem_toList_iff.2 (Array.mem_filter.1 he).1);simp[this]
 have hnew:((es.filter fun e=>!seen.contains e.born).filter fun x=>decide (x.born>=c))=#[]:=by
  rw[Array.filter_filter];refine Array.filter_eq_empty_iff.2 fun e he=>?_;have:=hlt e (Array.mem_toList_iff.2 he);simp;omega
 rw[hold,hnew,Array.append_empty];by_cases hL:(es.filter fun e=>!seen.contains e.born).isEmpty=true
 ·have hL':(es.filter fun e=>!seen.contains e.born)=#[]:=Array.isEmpty_iff.1 hL;rw[hL'];simp only[Array.isEmpty_empty,if_true,Array.map_empty,Array.append_empty];show Qe P (choose (Question.mapNext 1)) _ _ _;show (if _ then _ else _);rw[if_pos (by rfl)];refine hend fun e he=>?_;have:=Array.filter_eq_empty_iff.1 hL' e (Array.mem_toList_iff.1 he);simpa using this
 ·rw[Bool.not_eq_true]at hL;simp only[hL,Bool.false_eq_true,if_false,Array.empty_append,Array.size_map];have hpos:0<(es.filter fun e=>!seen.contains e.born).size:=by
   rcases Nat.eq_zero_or_pos (es.filter fun e=>!seen.contains e.born).size with h0|h0
   ·rw[Array.size_eq_zero_iff]at h0;rw[h0]at hL;cases hL
   ·exact h0
  have fin:∀ i,i<(es.filter fun e=>!seen.contains e.born).size->Qe P (match (Array.map some (es.filter fun e=>!seen.contains e.born))[i]? with
   | some (some e)=>do
    setObj r (.mapIter (some m) c (seen.push e.born) c)
    pure (.tuple #[.bool true,e.key,e.val])
   | some none=>pure (.tuple #[.bool false])
   | none => stuck "Next: no such candidate" : Sem Value) (fun v h' => (K v).wp X P Q { h with get := h' }) (fun _ _ => False) h.get := by
   intro i hi;have hmem:(es.filter fun e=>!seen.contains e.born)[i]∈es.filter fun e=>!seen.contains e.born:=Array.getElem_mem hi;rw[Array.mem_filter]at hmem;have hget:(Array.map some (es.filter fun e=>!seen.contains e.born))[i]?=some (some (es.filter fun e=>!seen.contains e.born)[i]):=by simp[hi]
   rw[hget];simp only[lwp_bind];refine⟨⟨_,hr,trivial⟩,?_⟩;simp only[Dg,Qg];refine hk _ (Array.mem_toList_iff.2 hmem.1) ?_;have:=hmem.2;simpa using this
  show (if _ then _ else _);split
  ·exact fin 0 hpos
  ·exact fun t=>fin _ (Nat.mod_lt _ hpos)
theorem t_entry{seen:Array Nat}{e:MapEntry}(hr:h.get r=some (true,.mapIter (some m) c (seen.push e.born) c))(hm:h.get m=some (b,.map es c))(he:e∈es.toList)(hb:(es.toList.map (·.born)).Nodup)
 (g:(K (.tuple #[e.key,e.val])).wp X P Q h):(T.sem false (Instr.entry (.pointer (some ⟨r,0,none⟩))) K).wp X P Q h:=by
 refine Jh (A:=fun v h'=>v=.tuple #[e.key,e.val]/\h'=h.get) ?_ (by rintro v h' ⟨rfl,rfl⟩;exact g);unfold Instr.entry;simp only[lwp_bind];refine⟨_,_,hr,trivial,?_⟩;simp only[Dg,Array.back?_push,lwp_bind];refine⟨_,_,hm,trivial,?_⟩;have f:es.find? (fun x=>x.born==e.born)=some e:=by
  rw[<- Array.find?_toList];have:∀ l:List MapEntry,e∈l->(l.map (·.born)).Nodup->l.find? (fun x=>x.born==e.born)=some e:=by
   intro l
   induction l with
   | nil=>intro h;simp at h
   | cons a l i =>
    intro h1 h2;simp only[List.map_cons,List.nodup_cons]at h2;rw[List.find?_cons];rcases List.mem_cons.1 h1 with rfl|h1
    ·simp
    ·have d:(a.born==e.born)=false:=by
      cases hb:(a.born==e.born) with
      | false=>rfl
      | true=>exact absurd (List.mem_map.2 ⟨e,h1,(eq_of_beq hb).symm⟩) h2.1
     rw[d];exact i h1 h2.2
  exact this _ he hb
 simp only[Dg,bne_self_eq_false,Bool.false_eq_true,if_false,lwp_bind,Qg,f];exact⟨trivial,trivial⟩
end
section
variable {P:Program} {E:Halt->Cells->Prop} {h:Cells}
variable {X:XP} {Q:Leaf->LH->Prop}
variable {K:Value->T}{t:TypeId}
theorem str_list(a b:ByteArray):(a.toList==b.toList)=true↔a=b:=by
 rw[beq_iff_eq,ByteArray.toList_eq,ByteArray.toList_eq];obtain⟨x⟩:=a;obtain⟨y⟩:=b;constructor
 ·intro e;have:x=y:=by apply Array.ext';simpa using e
  rw[this]
 ·intro e;cases e;rfl
theorem t_eqStr{h:LH}{x y:Operand}{a b:ByteArray}(hu:P.underlying t=some .string)(d:∀ c:Bool,(c=true↔a=b)->(K (.bool c)).wp X P Q h) :
  (T.sem false (Sem.bind (eqGuard .eql t x y (.string a) (.string b)) fun _=>binOp .eql t (.string a) (.string b)) K).wp X P Q h:=by
 refine Jh (A:=fun w h'=>h'=h.get/\(K w).wp X P Q h) (Qz _ _ ?_) (by rintro w h' ⟨rfl,hw⟩;exact hw);unfold eqGuard;simp only[Bool.not_true,Bool.false_eq_true,if_false,Qg];unfold binOp;show Qe P (Op.stringOp .eql a b) _ _ _;unfold Op.stringOp;rw[Qg];exact⟨rfl,d _ (str_list a b)⟩
theorem t_lenStr{h:LH}{t':TypeId}{s:ByteArray}(hu:P.underlying t=some .string)(a:(K (.int .i64 (s.size:Int))).wp X P Q h):(T.sem false (Builtin.len_ #[t] t' #[.string s]) K).wp X P Q h:=by
 refine Jh (A:=fun w h'=>h'=h.get/\(K w).wp X P Q h) ?_ (by rintro w h' ⟨rfl,hw⟩;exact hw);unfold Builtin.len_;change Qe P (underlying t >>= _) _ _ _;rw[lwp_bind,Qd hu];exact⟨rfl,a⟩
end
section
variable {P:Program} {E:Halt->Cells->Prop} {h:Cells}
def ByteE(h:Cells)(a:Addr)(c:UInt8):Prop:=h.cell? (a.add 0)=some (.int .u8 (c.toNat:Int))
variable {el:TypeId}{s:ByteArray}{K:Value->T}
theorem freeze_upd{h:Cells}{r:Nat}{cs:Array Value}{k:Nat}:(h.upd r (true,.cells cs el (0,0))).freeze { block:=r,off:=k } 1=h.upd r (true,.cells cs el (k,k+1)):=by
 funext a;unfold Cells.freeze Cells.upd;by_cases e:a=r
 ·subst e;simp[frzO]
 ·simp[e]
theorem lwp_bytes{Q:Value->Cells->Prop}(d:∀ r cap,h r=none->s.size<=cap->∀ cs:Array Value,(∀ (i:Nat) c,s.data[i]?=some c->cs[i]?=some (.int .u8 (c.toNat:Int)))->Q (.slice (some ⟨r,0,none⟩) s.size cap) (h.upd r (true,.cells cs el (cs.size,cs.size+1)))):Qe P (Conv.stringToBytes el s) Q E h:=by
 unfold Conv.stringToBytes;rw[lwp_bind];show (if _ then _ else _);split
 ·rename_i a;simp[Question.forced]at a
 ·intro t;simp only[lwp_bind];refine Kf fun r hr=>?_;unfold markStringish;rw[lwp_bind];refine⟨⟨_,Qn _ _ _⟩,?_⟩;have e:∀ (cs:Array Value),(h.upd r (true,.cells cs el (0,0))).shape? r=some (el,cs.size):=by
   intro cs;unfold Cells.shape?;rw[Qn]
  simp only[e];refine⟨by decide,⟨_,Qn _ _ _,fun _=>id⟩,?_⟩;rw[freeze_upd];refine d r _ hr (Nat.le_add_right _ _) _ fun i c hc=>?_;have b:i<s.data.size:=(Array.getElem?_eq_some_iff.1 hc).1;rw[Array.getElem?_append_left (by simpa using b),Array.getElem?_map,hc];rfl
variable {X:XP} {Q:Leaf->LH->Prop}
theorem t_bytes{h:LH}{src dst:TypeId}(h1:P.underlying src=some .string)(h2:P.underlying dst=some (.slice el))(h3:P.underlying el=some (.int .u8))(g:s.size<4611686018427387904)
 (e:∀ r cap h',h.le h'->Sl ByteE 1 h'.get (some ⟨r,0,none⟩) s.size s.data.toList->(K (.slice (some ⟨r,0,none⟩) s.size cap)).wp X P Q h'):(T.sem false (convert src dst (.string s)) K).wp X P Q h:=by
 refine Jh (A:=fun w h'=>∃ r cap,w=.slice (some ⟨r,0,none⟩) s.size cap/\h.get.le h'/\Sl ByteE 1 h' (some ⟨r,0,none⟩) s.size s.data.toList) ?_ (by rintro w h' ⟨r,cap,rfl,f,b⟩;exact e r cap _ ⟨f,rfl,rfl,rfl⟩ b);unfold convert;simp only[lwp_bind,Qd h1,Qd h2,Qd h3];refine lwp_bytes fun r cap hr d cs a=>⟨r,cap,rfl,Zc _ hr,?_⟩;refine⟨by rw[Array.length_toList];rfl,by rw[Array.length_toList];exact g,fun i c hc=>⟨_,rfl,?_⟩⟩;unfold ByteE;rw[Qa,Qa];simp only[Nat.zero_add,Nat.mul_one,Nat.add_zero];unfold Cells.cell?;rw[Qn];exact a i c (by simpa using hc)
theorem t_indexS{h:LH}{t:TypeId}{i:Nat}{c:UInt8}(hu:P.underlying t=some .string)(hc:s.data[i]?=some c)(b:(K (.int .u8 (c.toNat:Int))).wp X P Q h):(T.sem false (Instr.index t (.string s) (.int .i64 (i:Int))) K).wp X P Q h:=by
 refine Jh (A:=fun w h'=>h'=h.get/\w=.int .u8 (c.toNat:Int)) ?_ (by rintro w h' ⟨rfl,rfl⟩;exact b);unfold Instr.index;simp only[asIntOf,lwp_bind,Qg,Qd hu];have a:i<s.size:=(Array.getElem?_eq_some_iff.1 hc).1;have h1:s[(i:Int).toNat]?=some c:=by
  rw[Int.toNat_natCast,getElem?_pos s i a];have:=Array.getElem?_eq_getElem (xs:=s.data) (i:=i) a;rw[this]at hc;exact hc
 rw[if_pos (by omega),h1];exact⟨rfl,rfl⟩
end
section
variable {X:XP} {P:Program}
theorem Dl{f : FuncId}{fd : Func}{e : Array Value -> Sem Value}{args : Array Value}{h : LH}{Q : Value -> LH -> Prop}(hf : P.funcs[f]? = some fd)(hn : (fd.name == "runtime.NumGoroutine") = false)(hb : fd.body = none)(h1 : (Extern.findNext fd).isNone = true)(h2 : Extern.find fd = some e)
 (hw:Qe P (e args) (fun v h'=>Q v { h with get:=h' }) (fun _ _=>False) h.get):CV X P (.func (.func f) #[] #[]) args h Q:=by
 intro main R hR fr cs _ hk;have h1':Extern.findNext fd=none:=by cases e:Extern.findNext fd with|none=>rfl|some x=>rw[e]at h1;cases h1
 simp only[Deferred.ofValue,lwp_bind,Qg,invoke,callFunc,Jv,Array.append_empty,Array.empty_append];rw[hf];simp only;rw[if_neg (by rw[hn];simp),if_pos (by rw[hb];rfl)];rw[h1',h2];refine⟨.inr ⟨f,rfl⟩,?_⟩;show Qe P (do let v <- e args;pure (Next.value v)) _ _ _;rw[lwp_bind];refine Q7 _ hw (fun v h' hq=>?_) fun _ _ hf=>hf;rw[Qg];have:=hk v { h with get:=h' } (fun _=>none) (fun _=>.inr rfl) hq;rw[H8]at this;exact this
end
section
def str(l:List UInt8):ByteArray:=⟨l.toArray⟩
theorem J1(l:List UInt8):(str l).size=l.length:=by simp[str,ByteArray.size]
theorem str_data(l:List UInt8):(str l).data.toList=l:=by simp[str]
theorem str_inj{a b:List UInt8}(h:str a=str b):a=b:=by
 have:=congrArg (fun s:ByteArray=>s.data.toList) h;simpa[str] using this
theorem str_of(s:ByteArray):s=str s.data.toList:=by simp[str]
theorem Gb(l:List UInt8)(a b:Nat):(str l).extract a b=str ((l.take b).drop a):=by
 apply ByteArray.ext;simp only[str,ByteArray.data_extract,List.extract_toArray];congr 1;simp[List.extract,List.drop_take]
theorem str_append(a b:List UInt8):str a++str b=str (a++b):=by
 apply ByteArray.ext;simp[str]
section
variable {X:XP} {P:Program} {Q:Leaf->LH->Prop} {h:LH} {K:Value->T} {t t':TypeId}
variable {s:ByteArray}{a b:Nat}{x y:Operand}
theorem Q8{l:List UInt8}(hu:P.underlying t=some .string)(a:(K (.int .i64 (l.length:Int))).wp X P Q h):(T.sem false (Builtin.len_ #[t] t' #[.string (str l)]) K).wp X P Q h :=
 t_lenStr hu (by rw[J1];exact a)
theorem J8{l:List UInt8}{i:Nat}{c:UInt8}(hu:P.underlying t=some .string)(hc:l[i]?=some c)(a:(K (.int .u8 (c.toNat:Int))).wp X P Q h):(T.sem false (Instr.index t (.string (str l)) (.int .i64 (i:Int))) K).wp X P Q h :=
 t_indexS hu (by simpa[str] using hc) a
theorem t_sliceS(hu:P.underlying t=some .string)(d:a<=b)(hb:b<=s.size)(c:(K (.string (s.extract a b))).wp X P Q h):(T.sem false (Instr.sliceAt t (.string s) (some (.int .i64 (a:Int))) (some (.int .i64 (b:Int))) none) K).wp X P Q h:=by
 refine Jh (A:=fun v h'=>h'=h.get/\v=.string (s.extract a b)) ?_ (by rintro v h' ⟨rfl,rfl⟩;exact c);unfold Instr.sliceAt;simp only[lwp_bind,Qd hu];unfold Instr.slice;simp only[lwp_bind,Qd hu,Option.isSome_none,Bool.false_eq_true,if_false];unfold Instr.sliceBounds Instr.sliceBound;simp only[lwp_bind,Qg,asIntOf];rw[if_pos (show 0<=(b:Int)/\(b:Int)<=(s.size:Int) by omega)];simp only[Qg,lwp_bind,Int.toNat_natCast];rw[if_pos (show 0<=(a:Int)/\(a:Int)<=(b:Int) by omega)];simp only[Qg,lwp_bind,Int.toNat_natCast];exact⟨trivial,trivial⟩
theorem t_tailS(hu:P.underlying t=some .string)(c:a<=s.size)(b:(K (.string (s.extract a s.size))).wp X P Q h):(T.sem false (Instr.sliceAt t (.string s) (some (.int .i64 (a:Int))) none none) K).wp X P Q h:=by
 refine Jh (A:=fun v h'=>h'=h.get/\v=.string (s.extract a s.size)) ?_ (by rintro v h' ⟨rfl,rfl⟩;exact b);unfold Instr.sliceAt;simp only[lwp_bind,Qd hu];unfold Instr.slice;simp only[lwp_bind,Qd hu,Option.isSome_none,Bool.false_eq_true,if_false];unfold Instr.sliceBounds Instr.sliceBound;simp only[lwp_bind,Qg,asIntOf];rw[if_pos (show 0<=(a:Int)/\(a:Int)<=(s.size:Int) by omega)];simp only[Qg,lwp_bind,Int.toNat_natCast];exact⟨trivial,trivial⟩
theorem We{l:List UInt8}{n:Nat}(hu:P.underlying t=some .string)(b:n<=l.length)(a:(K (.string (str (l.take n)))).wp X P Q h):(T.sem false (Instr.sliceAt t (.string (str l)) none (some (.int .i64 (n:Int))) none) K).wp X P Q h:=by
 refine Jh (A:=fun v h'=>h'=h.get/\v=.string ((str l).extract 0 n)) ?_ (by rintro v h' ⟨rfl,rfl⟩;rw[Gb];exact a);have c:=J1 l;unfold Instr.sliceAt;simp only[lwp_bind,Qd hu];unfold Instr.slice;simp only[lwp_bind,Qd hu,Option.isSome_none,Bool.false_eq_true,if_false];unfold Instr.sliceBounds Instr.sliceBound;simp only[lwp_bind,Qg,asIntOf];rw[if_pos (show 0<=(n:Int)/\(n:Int)<=((str l).size:Int) by omega)];simp only[Qg,lwp_bind,Int.toNat_natCast];exact⟨trivial,trivial⟩
theorem Yd{l:List UInt8}(hu:P.underlying t=some .string)(c:a<=b)(hb:b<=l.length)(d:(K (.string (str ((l.take b).drop a)))).wp X P Q h):(T.sem false (Instr.sliceAt t (.string (str l)) (some (.int .i64 (a:Int))) (some (.int .i64 (b:Int))) none) K).wp X P Q h :=
 t_sliceS hu c (by rw[J1];exact hb) (by rw[Gb];exact d)
theorem Wd{l:List UInt8}(hu:P.underlying t=some .string)(b:a<=l.length)(c:(K (.string (str (l.drop a)))).wp X P Q h):(T.sem false (Instr.sliceAt t (.string (str l)) (some (.int .i64 (a:Int))) none none) K).wp X P Q h :=
 t_tailS hu (by rw[J1];exact b) (by rw[Gb,J1,List.take_of_length_le (Nat.le_refl _)];exact c)
theorem t_catS{a b:ByteArray}(hu:P.underlying t=some .string)(d:a.size+b.size<=2^62)(c:(K (.string (a++b))).wp X P Q h) :
  (T.sem false (Sem.bind (eqGuard .add t x y (.string a) (.string b)) fun _=>binOp .add t (.string a) (.string b)) K).wp X P Q h:=by
 refine Jh (A:=fun w h'=>h'=h.get/\(K w).wp X P Q h) (Qz _ _ ?_) (by rintro w h' ⟨rfl,hw⟩;exact hw);unfold eqGuard;simp only[Bool.not_true,Bool.not_false,Bool.false_eq_true,if_false,if_true,Qg];unfold binOp;show Qe P (Op.stringOp .add a b) _ _ _;unfold Op.stringOp;have e:IntKind.i64.max=9223372036854775807:=rfl;simp only[];rw[if_neg (by rw[e];omega),Qg];exact⟨rfl,c⟩
theorem K9{a b:List UInt8}(hu:P.underlying t=some .string)(d:a.length+b.length<=2^62)(c:(K (.string (str (a++b)))).wp X P Q h) :
  (T.sem false (Sem.bind (eqGuard .add t x y (.string (str a)) (.string (str b))) fun _=>binOp .add t (.string (str a)) (.string (str b))) K).wp X P Q h :=
 t_catS hu (by rw[J1,J1];exact d) (by rw[str_append];exact c)
theorem Ga{a b:List UInt8}(hu:P.underlying t=some .string)(d:(K (.bool (decide (a=b)))).wp X P Q h) :
  (T.sem false (Sem.bind (eqGuard .eql t x y (.string (str a)) (.string (str b))) fun _=>binOp .eql t (.string (str a)) (.string (str b))) K).wp X P Q h :=
 t_eqStr hu fun c hc=>by
  have:c=decide (a=b):=by
   cases c with
   | true=>exact(decide_eq_true (str_inj (hc.1 rfl))).symm
   | false =>
    symm;rw[decide_eq_false_iff_not];intro e;have:=hc.2 (by rw[e]);cases this
  rw[this];exact d
end
end
end Go.TM
section
namespace Go.TM.Tp
variable {P:Program} {E:Halt->Cells->Prop} {h:Cells}
variable {r:Nat}{m:Bool}{cs:Array Value}{el src dst:TypeId}{Q:Value->Cells->Prop}
theorem shape_at{fr:Nat×Nat}(hr:h r=some (m,.cells cs el fr)):h.shape? r=some (el,cs.size):=by
 unfold Cells.shape?;rw[hr]
theorem K5{Q:Option (TypeId×Nat)->Cells->Prop}{fr:Nat×Nat}(hr:h r=some (m,.cells cs el fr)):Qe P (shape r) Q E h↔Q (some (el,cs.size)) h:=by
 constructor
 ·rintro⟨_,h2⟩;rw[shape_at hr]at h2;exact h2
 ·intro h2;refine⟨⟨_,hr⟩,?_⟩;rw[shape_at hr];exact h2
theorem lwp_seenAt{Q:Addr->Cells->Prop}{a:Addr}{fr:Nat×Nat}(hr:h a.block=some (m,.cells cs el fr))(b:Q a h):Qe P (Conv.seenAt a) Q E h:=by
 unfold Conv.seenAt viewAt;simp only[lwp_bind];rw[K5 hr];simp only[Option.isSome_some,if_true,Qg];exact b
theorem lwp_toUnsafe{t:TypeId}{j:TypeInfo}{fr:Nat×Nat}(d:P.underlying src=some (.pointer t))(a:P.underlying dst=some .unsafePointer)(e:P.info? t=some j)(b:j.size≠0)(hr:h r=some (m,.cells cs el fr))(hc:0<cs.size)(c:Q (.pointer (some ⟨r,0,none⟩)) h) :
  Qe P (convert src dst (.pointer (some ⟨r,0,none⟩))) Q E h:=by
 simp only[convert,lwp_bind,Qd d,Qd a,Conv.unsafePointer];refine lwp_seenAt hr ?_;unfold cellsIn;simp only[lwp_bind];rw[K5 hr];simp only[Qg,Q2 e];have h1:¬ (0>=cs.size):=by omega
 simp only[h1,decide_false,Bool.false_and,Bool.or_false,decide_eq_true_eq,b,if_false,Qg,Bool.false_eq_true,or_false];exact c
theorem lwp_fromUnsafe{u:TypeId}{j:TypeInfo}{fr:Nat×Nat}(d:P.underlying src=some .unsafePointer)(a:P.underlying dst=some (.pointer u))(hu:P.info? u=some j)(hr:h r=some (m,.cells cs el fr))(b:liesAt P P.depth el (cs.size / P.cellsOf el) 0 u 1=true)(c:Q (.pointer (some ⟨r,0,none⟩)) h) :
  Qe P (convert src dst (.pointer (some ⟨r,0,none⟩))) Q E h:=by
 simp only[convert,lwp_bind,Qd d,Qd a,Conv.unsafePointer];refine lwp_seenAt hr ?_;unfold variablesAt;simp only[lwp_bind,Q2 hu,Jv];rw[K5 hr];simp only[Qg,b,decide_true,Bool.or_true,or_true,if_true];exact c
end Go.TM.Tp
end
section
namespace Go.Y
set_option maxHeartbeats 0
set_option linter.unusedVariables false
variable {X:XP} {h:LH} {A:Value->LH->Prop}
variable {a b c d e f g i j k l m:Int}{n o p q r s t u v w x y z:Nat}{B C D E F G H I J K L M:Option Addr}
theorem w3715{e:ByteArray}:FX X 35 #[.pointer B,.string e] h A (.cl 84 #[.pointer B] fun b=>.unTup b fun g=>.unNil g (.someA B fun c=>.loadS (c.add 1) fun i a d=>.sem false (Builtin.append_ #[78,9] 78 #[.slice i a d,.string e]) fun b=>.unS b fun c a d=>.someA B fun f=>.store ((f.add 1).add 0) (.slice c a d) (.sem false (Builtin.len_ #[9] 3 #[.string e]) fun b=>.ui b fun a=>.rt (.tuple #[a,.nilIface])))):=fk [] [] [] Tryz.f35
theorem w3716{j:ByteArray}:FX X 36 #[.slice B n o,.string j] h A (bif (↑n:Int)==0 then .rt (.string { data:=#[] }) else bif (↑n:Int)==1 then .need ((0:Int)<=0/\0<(↑n:Int)) (.someA B fun e=>.loadStr (e.add 0) fun d=>.rt (.string d)) else .blk (.sem false (Builtin.len_ #[9] 3 #[.string j]) fun c=>.ui c fun b=>bif decide (b>0) then .sem false (Builtin.len_ #[9] 3 #[.string j]) fun c=>.ui c fun b=>.need (wrap .i64 ((↑n:Int)-1)≠0) (bif decide (b>=wrap .i64 (Int.tdiv 9223372036854775807 (wrap .i64 ((↑n:Int)-1)))) then .fail else .sem false (Builtin.len_ #[9] 3 #[.string j]) fun c=>.ui c fun b=>.ag [.int .i64 (wrap .i64 (0+wrap .i64 (b*wrap .i64 ((↑n:Int)-1))))]) else .ag [.int .i64 0]) (fun a=>.pi a fun b a=>.unNil a (.loop [b,.int .i64 0] (fun a=>.pi a fun b a=>.pi a fun g a=>.unNil a (bif decide (g<(↑n:Int)) then .need (0<=g/\g<(↑n:Int)) (.someA B fun e=>.loadStr (e.add (g.toNat*1)) fun d=>.sem false (Builtin.len_ #[9] 3 #[.string d]) fun c=>.ui c fun f=>bif decide (f>wrap .i64 (9223372036854775807-b)) then .fail else .sem false (Builtin.len_ #[9] 3 #[.string d]) fun c=>.ui c fun p=>.ag [.int .i64 (wrap .i64 (b+p)),.int .i64 (wrap .i64 (g+1))]) else .bk [b,g])) (fun a=>.pi a fun b a=>.pi a fun g a=>.unNil a (.new 80 #[.pointer none,.slice none 0 0] fun i=>.cl 85 #[.pointer (some ⟨i,0,none⟩),b] fun c=>.unTup c fun m=>.unNil m (.need ((0:Int)<=0/\0<(↑n:Int)) (.someA B fun e=>.loadStr (e.add 0) fun d=>.cT 35 #[.pointer (some ⟨i,0,none⟩),.string d] fun c a=>.ui c fun b=>.unCons a fun c a=>.unNil a (.sem false (Instr.sliceAt 81 (.slice B n o) (some (.int .i64 1)) none none) fun q=>.unS q fun e b r=>.loop [.int .i64 0] (fun a=>.pi a fun f a=>.unNil a (bif decide (f<(↑b:Int)) then .need (0<=f/\f<(↑b:Int)) (.someA e fun e=>.loadStr (e.add (f.toNat*1)) fun d=>.cT 35 #[.pointer (some ⟨i,0,none⟩),.string j] fun c a=>.ui c fun b=>.unCons a fun c a=>.unNil a (.cT 35 #[.pointer (some ⟨i,0,none⟩),.string d] fun c a=>.ui c fun b=>.unCons a fun c a=>.unNil a (.ag [.int .i64 (wrap .i64 (f+1))]))) else .bk [f])) (fun a=>.pi a fun b a=>.unNil a (.cl 41 #[.pointer (some ⟨i,0,none⟩)] fun c=>.unStr c fun d=>.rt (.string d))) (fun a=>.pi a fun b a=>.unNil a (.rt (.string { data:=#[] }))) fun k l=>.fail))))) (fun a=>.pi a fun b a=>.pi a fun b a=>.unNil a (.rt (.string { data:=#[] }))) fun k l=>.fail)) (fun a=>.pi a fun b a=>.unNil a (.rt (.string { data:=#[] }))) fun k l=>.fail):=fk [] [⟨1,[(5,.int .i64),(41,.int .i64)],[],[],[],[]⟩,⟨3,[(65,.int .i64)],[],[],[],[]⟩] [⟨11,[(5,.int .i64)],[],[],[],[]⟩] Tryz.f36
theorem w3720:FX X 40 #[.pointer B] h A (.someA B fun a=>.loadS (a.add 1) fun d b c=>.rt (.int .i64 (↑b:Int))):=fk [] [] [] Tryz.f40
theorem w3721:FX X 41 #[.pointer B] h A (.someA B fun b=>.loadS (b.add 1) fun e d c=>.someA B fun a=>.loadS (a.add 1) fun j f i=>.sem false (Builtin.unsafeSliceData_ #[78] 162 #[.slice e d c]) fun g=>.nd (.int .i64 (↑f:Int)) (.loadS (a.add 1) fun e d c=>.ne (.slice e d c) (.slice j f i) (.nO (a.add 1) (.someA B fun k=>.nq k a (.nds [.val (.pointer B),.O (b.add 1)] (.someA B fun l=>.nq l b (.nd (.pointer B) (.sem false (Builtin.unsafeString_ #[162,3] 9 #[g,.int .i64 (↑f:Int)]) fun g=>.unStr g fun o=>.loadS (a.add 1) fun e d c=>.ne (.slice e d c) (.slice j f i) (.nO (a.add 1) (.someA B fun m=>.nq m a (.nds [.val (.pointer B),.O (b.add 1)] (.someA B fun n=>.nq n b (.nd (.pointer B) (.rt (.string o))))))))))))))):=fk [] [] [] Tryz.f41
theorem w3739:FX X 84 #[.pointer B] h A (.someA B fun a=>.loadP (a.add 0) fun c=>.sem false (Sem.bind (eqGuard BinOp.eql 77 (Operand.tmp 5) (Operand.const (.pointer none)) (.pointer c) (.pointer none)) fun d=>binOp BinOp.eql 77 (.pointer c) (.pointer none)) fun b=>.unB b fun f=>bif f then .sem false (convert 77 231 (.pointer B)) fun b=>.unP b fun a=>.callv false (.func (Fn.func 146) #[] #[]) #[.pointer a] fun b=>.unP b fun a=>.sem false (convert 231 77 (.pointer a)) fun b=>.unP b fun a=>.someA B fun e=>.store ((e.add 0).add 0) (.pointer a) (.rt (.tuple #[])) else .someA B fun a=>.loadP (a.add 0) fun c=>.sem false (Sem.bind (eqGuard BinOp.neq 77 (Operand.tmp 17) (Operand.tmp 18) (.pointer c) (.pointer B)) fun d=>binOp BinOp.neq 77 (.pointer c) (.pointer B)) fun b=>.unB b fun B=>bif B then .fail else .rt (.tuple #[])):=fk [] [] [] Tryz.f84
theorem w3740:FX X 85 #[.pointer B,a] h A (.cl 84 #[.pointer B] fun b=>.unTup b fun f=>.unNil f (.blk (bif decide (a<0) then .fail else .ag []) (fun j=>.unNil j (.someA B fun d=>.loadS (d.add 1) fun i n e=>.someA B fun c=>.loadS (c.add 1) fun q g m=>.sem false (Builtin.cap_ #[78] 3 #[.slice i n e]) fun b=>.ui b fun o=>.nds [a,.val (.int .i64 (↑g:Int))] (.loadS (c.add 1) fun i p e=>.ne (.slice i p e) (.slice q g m) (.nO (c.add 1) (.someA B fun k=>.nq k c (.nds [.val (.pointer B),.O (d.add 1)] (.someA B fun l=>.nq l d (.nd (.pointer B) (bif decide (wrap .i64 (o-(↑g:Int))<a) then .cl 147 #[.pointer B,a] fun b=>.unTup b fun f=>.unNil f (.rt (.tuple #[])) else .rt (.tuple #[])))))))))) (fun j=>.unNil j (.rt (.tuple #[]))) fun r s=>.fail)):=fk [] [] [⟨3,[],[],[],[],[]⟩] Tryz.f85
theorem w3766:FX X 147 #[.pointer B,a] h A (.someA B fun b=>.loadS (b.add 1) fun d x e=>.someA B fun c=>.loadS (c.add 1) fun k f i=>.sem false (Builtin.cap_ #[78] 3 #[.slice d x e]) fun g=>.ui g fun j=>.nd (.int .i64 (↑f:Int)) (.loadS (c.add 1) fun d y e=>.ne (.slice d y e) (.slice k f i) (.nO (c.add 1) (.someA B fun n=>.nq n c (.nds [.val (.pointer B),a,.O (b.add 1)] (.someA B fun o=>.nq o b (.nd (.pointer B) (.callv false (.func (Fn.func 172) #[] #[]) #[.int .i64 (wrap .i64 (wrap .i64 (2*j)+a))] fun g=>.unS g fun p z e=>.nds [.val (.int .i64 (wrap .i64 (2*j))),.val (.int .i64 (↑f:Int))] (.loadS (c.add 1) fun d C u=>.ne (.slice d C u) (.slice k f i) (.nO (c.add 1) (.someA B fun q=>.nq q c (.nds [.val (.pointer B),a,.O (b.add 1)] (.someA B fun r=>.nq r b (.nd (.pointer B) (.sem false (Instr.sliceAt 78 (.slice p z e) none (some (.int .i64 (↑f:Int))) none) fun E=>.unS E fun l m e=>.nd (.int .i64 (wrap .i64 (2*j))) (.loadS (c.add 1) fun d D v=>.ne (.slice d D v) (.slice k f i) (.nO (c.add 1) (.someA B fun s=>.nq s c (.nds [.val (.pointer B),a,.O (b.add 1)] (.someA B fun t=>.nq t b (.nd (.pointer B) (.someA B fun b=>.loadS (b.add 1) fun d a w=>.sem false (Builtin.copy_ #[78,78] 3 #[.slice l m e,.slice d a w]) fun g=>.someA B fun b=>.store ((b.add 1).add 0) (.slice l m e) (.rt (.tuple #[])))))))))))))))))))))))):=fk [] [] [] Tryz.f147
theorem w3726{a:ByteArray}:FX X 47 #[.string a] h A (.new 9 #[.string a] fun b=>.rt (.func (Fn.func 93) #[] #[.pointer (some ⟨b,0,none⟩)])):=fk [] [] [] Tryz.f47
theorem w3743{k:Value}{c:Addr}:FX X 93 #[k,.pointer (some c)] h A (.loop [] (fun j=>.unNil j (.loadStr c fun b=>.sem false (Builtin.len_ #[9] 3 #[.string b]) fun d=>.ui d fun a=>bif decide (a>0) then .loadStr c fun b=>.cI 94 #[.string b,.int .u8 10] fun a=>bif decide (a>=0) then .loadStr c fun b=>.loadStr c fun g=>.both (.sem false (Instr.sliceAt 9 (.string b) none (some (.int .i64 (wrap .i64 (a+1)))) none) fun e=>.unStr e fun b=>.nds [.val (.int .i64 (wrap .i64 (a+1))),a] (.loadStr c fun l=>.ne (.string l) (.string g) (.nd a (.both (.sem false (Instr.sliceAt 9 (.string g) (some (.int .i64 (wrap .i64 (a+1)))) none none) fun e=>.unStr e fun i=>.nds [a,a,a] (.store (c.add 0) (.string i) (.callv false k #[.string b] fun d=>.unB d fun f=>bif !f then .rn [] else .ag []))) (.nds [.val (.int .i64 (wrap .i64 (a+1))),a] (.loadStr c fun i=>.ne (.string i) (.string g) (.sem false (Instr.sliceAt 9 (.string g) (some (.int .i64 (wrap .i64 (a+1)))) none none) fun e=>.unStr e fun m=>.nd a (.store (c.add 0) (.string m) (.callv false k #[.string b] fun d=>.unB d fun f=>bif !f then .rn [] else .ag []))))))))) (.sem false (Instr.sliceAt 9 (.string g) (some (.int .i64 (wrap .i64 (a+1)))) none none) fun e=>.unStr e fun l=>.nds [a,.val (.int .i64 (wrap .i64 (a+1))),a] (.loadStr c fun i=>.ne (.string i) (.string b) (.sem false (Instr.sliceAt 9 (.string b) none (some (.int .i64 (wrap .i64 (a+1)))) none) fun e=>.unStr e fun b=>.nds [a,a,a] (.store (c.add 0) (.string l) (.callv false k #[.string b] fun d=>.unB d fun f=>bif !f then .rn [] else .ag []))))) else .loadStr c fun b=>.store (c.add 0) (.string { data:=#[] }) (.callv false k #[.string b] fun d=>.unB d fun f=>bif !f then .rn [] else .ag []) else .bk [])) (fun j=>.unNil j (.rt (.tuple #[]))) (fun j=>.unNil j (.rt (.tuple #[]))) fun n o=>.fail):=fk [] [⟨0,[],[],[],[],[]⟩] [] Tryz.f93
theorem w3728{a:ByteArray}{b:ByteArray}:FX X 49 #[.string a,.string b] h A (.cl 103 #[.string a,.string b] fun c=>.unStr c fun a=>.rt (.string a)):=fk [] [] [] Tryz.f49
theorem w3752{a:ByteArray}{b:ByteArray}:FX X 103 #[.string a,.string b] h A (.cB 157 #[.string a,.string b] fun d=>bif d then .sem false (Builtin.len_ #[9] 3 #[.string a]) fun c=>.ui c fun e=>.sem false (Builtin.len_ #[9] 3 #[.string b]) fun c=>.ui c fun f=>.sem false (Instr.sliceAt 9 (.string a) none (some (.int .i64 (wrap .i64 (e-f)))) none) fun g=>.unStr g fun a=>.rt (.string a) else .rt (.string a)):=fk [] [] [] Tryz.f103
theorem w3744{c:ByteArray}{d:ByteArray}:FX X 95 #[.string c,.string d] h A (.cT 152 #[.string c,.string d] fun a b=>.unStr a fun c=>.unCons b fun a b=>.unStr a fun f=>.unCons b fun a b=>.unB a fun e=>.unNil b (.rt (.tuple #[.string c,.string f,e]))):=fk [] [] [] Tryz.f95
theorem w3768{a:ByteArray}{f:ByteArray}:FX X 152 #[.string a,.string f] h A (.cI 175 #[.string a,.string f] fun b=>bif decide (b>=0) then .both (.sem false (Instr.sliceAt 9 (.string a) none (some (.int .i64 b)) none) fun c=>.unStr c fun e=>.nds [.val (.string f),b,.val (.string a)] (.both (.sem false (Builtin.len_ #[9] 3 #[.string f]) fun g=>.ui g fun d=>.nds [b,.val (.string a)] (.both (.sem false (Instr.sliceAt 9 (.string a) (some (.int .i64 (wrap .i64 (b+d)))) none none) fun c=>.unStr c fun a=>.nds [b,b] (.rt (.tuple #[.string e,.string a,true]))) (.nds [.val (.int .i64 (wrap .i64 (b+d))),b,.val (.string a)] (.sem false (Instr.sliceAt 9 (.string a) (some (.int .i64 (wrap .i64 (b+d)))) none none) fun c=>.unStr c fun a=>.nd b (.rt (.tuple #[.string e,.string a,true])))))) (.nds [.val (.string f),b,.val (.string a)] (.sem false (Builtin.len_ #[9] 3 #[.string f]) fun g=>.ui g fun d=>.nds [b,.val (.string a)] (.sem false (Instr.sliceAt 9 (.string a) (some (.int .i64 (wrap .i64 (b+d)))) none none) fun c=>.unStr c fun a=>.nd b (.rt (.tuple #[.string e,.string a,true]))))))) (.sem false (Builtin.len_ #[9] 3 #[.string f]) fun g=>.ui g fun d=>.nds [b,.val (.string a),b,.val (.string a)] (.both (.sem false (Instr.sliceAt 9 (.string a) none (some (.int .i64 b)) none) fun c=>.unStr c fun e=>.nds [.val (.int .i64 (wrap .i64 (b+d))),b,.val (.string a)] (.both (.sem false (Instr.sliceAt 9 (.string a) (some (.int .i64 (wrap .i64 (b+d)))) none none) fun c=>.unStr c fun a=>.nds [b,b] (.rt (.tuple #[.string e,.string a,true]))) (.nds [.val (.int .i64 (wrap .i64 (b+d))),b,.val (.string a)] (.sem false (Instr.sliceAt 9 (.string a) (some (.int .i64 (wrap .i64 (b+d)))) none none) fun c=>.unStr c fun a=>.nd b (.rt (.tuple #[.string e,.string a,true])))))) (.sem false (Instr.sliceAt 9 (.string a) (some (.int .i64 (wrap .i64 (b+d)))) none none) fun c=>.unStr c fun e=>.nds [b,b,.val (.string a)] (.sem false (Instr.sliceAt 9 (.string a) none (some (.int .i64 b)) none) fun c=>.unStr c fun a=>.nds [b,b] (.rt (.tuple #[.string a,.string e,true])))))) else .rt (.tuple #[.string a,.string { data:=#[] },false])):=fk [] [] [] Tryz.f152
theorem w3745{a:ByteArray}{d:ByteArray}:FX X 96 #[.string a,.string d] h A (.cT 153 #[.string a,.string d] fun b c=>.unStr b fun a=>.unCons c fun b c=>.unB b fun e=>.unNil c (.rt (.tuple #[.string a,e]))):=fk [] [] [] Tryz.f96
theorem w3769{a:ByteArray}{b:ByteArray}:FX X 153 #[.string a,.string b] h A (.cB 157 #[.string a,.string b] fun d=>bif !d then .rt (.tuple #[.string a,false]) else .sem false (Builtin.len_ #[9] 3 #[.string a]) fun c=>.ui c fun e=>.sem false (Builtin.len_ #[9] 3 #[.string b]) fun c=>.ui c fun f=>.sem false (Instr.sliceAt 9 (.string a) none (some (.int .i64 (wrap .i64 (e-f)))) none) fun g=>.unStr g fun a=>.rt (.tuple #[.string a,true])):=fk [] [] [] Tryz.f153
theorem w3772{b:ByteArray}{c:ByteArray}:FX X 157 #[.string b,.string c] h A (.sem false (Builtin.len_ #[9] 3 #[.string b]) fun a=>.ui a fun d=>.sem false (Builtin.len_ #[9] 3 #[.string c]) fun a=>.ui a fun f=>bif decide (d>=f) then .sem false (Builtin.len_ #[9] 3 #[.string b]) fun a=>.ui a fun d=>.sem false (Builtin.len_ #[9] 3 #[.string c]) fun a=>.ui a fun g=>.sem false (Instr.sliceAt 9 (.string b) (some (.int .i64 (wrap .i64 (d-g)))) none none) fun i=>.unStr i fun b=>.sem false (Sem.bind (eqGuard BinOp.eql 9 (Operand.tmp 17) (Operand.tmp 18) (.string b) (.string c)) fun j=>binOp BinOp.eql 9 (.string b) (.string c)) fun a=>.unB a fun e=>.rt (.bool e) else .rt (.bool false)):=fk [] [] [] Tryz.f157
theorem w3746{a:ByteArray}{b:ByteArray}:FX X 97 #[.string a,.string b] h A (.cl 154 #[.string a,.string b,.int .i64 0,.int .i64 (-1)] fun f=>.unS f fun c e d=>.rt (.slice c e d)):=fk [] [] [] Tryz.f97
theorem w3770{d:ByteArray}{j:ByteArray}:FX X 154 #[.string d,.string j,a,b] h A (bif b==0 then .rt (.slice none 0 0) else .sem false (Sem.bind (eqGuard BinOp.eql 9 (Operand.tmp 14) (Operand.const (.string { data:=#[] })) (.string j) (.string { data:=#[] })) fun t=>binOp BinOp.eql 9 (.string j) (.string { data:=#[] })) fun f=>.unB f fun o=>bif o then .cl 176 #[.string d,b] fun f=>.unS f fun e b k=>.rt (.slice e b k) else .blk (bif decide (b<0) then .cI 177 #[.string d,.string j] fun b=>.ag [.int .i64 (wrap .i64 (b+1))] else .ag [b]) (fun c=>.pi c fun b c=>.unNil c (.sem false (Builtin.len_ #[9] 3 #[.string d]) fun f=>.ui f fun i=>.sem false (Instr.makeSlice 81 (.int .i64 (if wrap .i64 (i+1)<b then wrap .i64 (i+1) else b)) (.int .i64 (if wrap .i64 (i+1)<b then wrap .i64 (i+1) else b))) fun f=>.unS f fun e m k=>.loop [.string d,.int .i64 0] (fun c=>.popStr c fun d c=>.pi c fun g c=>.unNil c (bif decide (g<wrap .i64 ((if wrap .i64 (i+1)<b then wrap .i64 (i+1) else b)-1)) then .cI 178 #[.string d,.string j] fun b=>bif decide (b<0) then .bk [.string d,g] else .sem false (Instr.sliceAt 9 (.string d) none (some (.int .i64 (wrap .i64 (b+a)))) none) fun l=>.unStr l fun q=>.need (0<=g/\g<(↑m:Int)) (.someA e fun e=>.store ((e.add (g.toNat*1)).add 0) (.string q) (.sem false (Builtin.len_ #[9] 3 #[.string j]) fun f=>.ui f fun p=>.sem false (Instr.sliceAt 9 (.string d) (some (.int .i64 (wrap .i64 (b+p)))) none none) fun l=>.unStr l fun d=>.ag [.string d,.int .i64 (wrap .i64 (g+1))])) else .bk [.string d,g])) (fun c=>.popStr c fun d c=>.pi c fun b c=>.unNil c (.need (0<=b/\b<(↑m:Int)) (.someA e fun n=>.store ((n.add (b.toNat*1)).add 0) (.string d) (.sem false (Instr.sliceAt 81 (.slice e m k) none (some (.int .i64 (wrap .i64 (b+1)))) none) fun l=>.unS l fun e b k=>.rt (.slice e b k))))) (fun c=>.popStr c fun d c=>.pi c fun b c=>.unNil c (.rt (.slice none 0 0))) fun r s=>.fail)) (fun c=>.pi c fun b c=>.unNil c (.rt (.slice none 0 0))) fun r s=>.fail):=fk [] [⟨0,[(0,.str),(10,.int .i64)],[],[],[],[]⟩] [⟨7,[(3,.int .i64)],[],[],[],[]⟩] Tryz.f154
theorem w3776{d:ByteArray}{g:ByteArray}:FX X 175 #[.string d,.string g] h A (.sem false (Builtin.len_ #[9] 3 #[.string g]) fun c=>.ui c fun b=>.blk (.blk (bif b==0 then .ag [true] else .sem false (Sem.bind (eqGuard BinOp.eql 9 (Operand.tmp 20) (Operand.tmp 21) (.string g) (.string d)) fun u=>binOp BinOp.eql 9 (.string g) (.string d)) fun c=>.unB c fun i=>.ag [i]) (fun a=>.popB a fun i a=>.unNil a (bif i then .rn [.int .i64 0] else bif b==1 then .sem false (Instr.index 9 (.string g) (.int .i64 0)) fun c=>.unI .u8 c fun b=>.cI 151 #[.string d,.int .u8 b] fun b=>.rn [b] else .sem false (Builtin.len_ #[9] 3 #[.string d]) fun c=>.ui c fun r=>bif decide (b>=r) then .rn [.int .i64 (-1)] else .li { block:=4,off:=0 } fun p=>bif decide (b<=p) then .sem false (Builtin.len_ #[9] 3 #[.string d]) fun c=>.ui c fun b=>bif decide (b<=64) then .callv false (.func (Fn.func 202) #[] #[]) #[.string d,.string g] fun c=>.ui c fun b=>.rn [b] else .ag [.int .i64 0] else .ag [.int .i64 0])) (fun a=>.popB a fun i a=>.unNil a (.rn [.int .i64 0])) fun n o=>.fail) (fun a=>.pi a fun r a=>.unNil a (.sem false (Instr.index 9 (.string g) (.int .i64 0)) fun c=>.unI .u8 c fun p=>.sem false (Instr.index 9 (.string g) (.int .i64 1)) fun c=>.unI .u8 c fun v=>.sem false (Builtin.len_ #[9] 3 #[.string d]) fun c=>.ui c fun t=>.loop [r,.int .i64 0,.int .i64 0] (fun a=>.pi a fun q a=>.pi a fun j a=>.pi a fun f a=>.unNil a (bif decide (j<wrap .i64 (wrap .i64 (t-b)+1)) then .blk (.sem false (Instr.index 9 (.string d) (.int .i64 j)) fun c=>.unI .u8 c fun m=>bif m != p then .sem false (Instr.sliceAt 9 (.string d) (some (.int .i64 (wrap .i64 (j+1)))) (some (.int .i64 (wrap .i64 (wrap .i64 (t-b)+1)))) none) fun k=>.unStr k fun d=>.cI 151 #[.string d,.int .u8 p] fun b=>bif decide (b<0) then .rn [.int .i64 (-1),j] else .ag [q,.int .i64 (wrap .i64 (j+wrap .i64 (b+1)))] else .ag [q,j]) (fun a=>.pi a fun m a=>.pi a fun e a=>.unNil a (.blk (.sem false (Instr.index 9 (.string d) (.int .i64 (wrap .i64 (e+1)))) fun c=>.unI .u8 c fun l=>bif l==v then .sem false (Instr.sliceAt 9 (.string d) (some (.int .i64 e)) (some (.int .i64 (wrap .i64 (e+b)))) none) fun k=>.unStr k fun d=>.sem false (Sem.bind (eqGuard BinOp.eql 9 (Operand.tmp 90) (Operand.tmp 91) (.string d) (.string g)) fun u=>binOp BinOp.eql 9 (.string d) (.string g)) fun c=>.unB c fun i=>bif i then .rn [e] else .ag [m] else .ag [m]) (fun a=>.pi a fun l a=>.unNil a (.blk (.li { block:=4,off:=0 } fun s=>bif decide (b<=s) then .cI 203 #[.int .i64 (wrap .i64 (e+1))] fun b=>.ag [.bool (decide (wrap .i64 (f+1)>b))] else .ag [false]) (fun a=>.popB a fun i a=>.unNil a (bif i then .sem false (Instr.sliceAt 9 (.string d) (some (.int .i64 (wrap .i64 (e+1)))) none none) fun k=>.unStr k fun d=>.callv false (.func (Fn.func 202) #[] #[]) #[.string d,.string g] fun c=>.ui c fun b=>bif decide (b>=0) then .rn [.int .i64 (wrap .i64 (b+wrap .i64 (e+1))),.int .i64 (wrap .i64 (e+1)),.int .i64 (wrap .i64 (f+1))] else .rn [.int .i64 (-1),.int .i64 (wrap .i64 (e+1)),.int .i64 (wrap .i64 (f+1))] else .li { block:=4,off:=0 } fun s=>bif decide (b>s) then .need ((0:Int)<=4) (bif decide (wrap .i64 (f+1)>=wrap .i64 (4+Int.fdiv (wrap .i64 (e+1)) (2^4))) then bif decide (wrap .i64 (e+1)<wrap .i64 (wrap .i64 (t-b)+1)) then .sem false (Instr.sliceAt 9 (.string d) (some (.int .i64 (wrap .i64 (e+1)))) none none) fun k=>.unStr k fun d=>.cI 204 #[.string d,.string g] fun b=>bif decide (b<0) then .rn [.int .i64 (-1),.int .i64 (wrap .i64 (e+1)),.int .i64 (wrap .i64 (f+1))] else .rn [.int .i64 (wrap .i64 (wrap .i64 (e+1)+b)),.int .i64 (wrap .i64 (e+1)),.int .i64 (wrap .i64 (f+1))] else .ag [l,.int .i64 (wrap .i64 (e+1)),.int .i64 (wrap .i64 (f+1))] else .ag [l,.int .i64 (wrap .i64 (e+1)),.int .i64 (wrap .i64 (f+1))]) else .ag [l,.int .i64 (wrap .i64 (e+1)),.int .i64 (wrap .i64 (f+1))])) (fun a=>.popB a fun i a=>.unNil a (.rn [l,.int .i64 (wrap .i64 (e+1)),.int .i64 (wrap .i64 (f+1))])) fun n o=>.fail)) (fun a=>.pi a fun b a=>.unNil a (.rn [b,e,f])) fun n o=>.fail)) (fun a=>.pi a fun b a=>.pi a fun m a=>.unNil a (.rn [b,m,f])) fun n o=>.fail else .bk [q,j,f])) (fun a=>.pi a fun b a=>.pi a fun b a=>.pi a fun b a=>.unNil a (.rt (.int .i64 (-1)))) (fun a=>.pi a fun b a=>.pi a fun q a=>.pi a fun j a=>.unNil a (.rt (.int .i64 b))) fun n o=>.fail)) (fun a=>.pi a fun b a=>.unNil a (.rt (.int .i64 b))) fun n o=>.fail):=fk [] [⟨1,[(4,.int .i64),(8,.int .i64),(10,.int .i64)],[],[],[],[]⟩] [⟨2000016,[(16,.bool)],[],[],[],[]⟩,⟨2000107,[(107,.bool)],[],[],[],[]⟩,⟨23,[(4,.int .i64)],[],[],[],[]⟩,⟨21,[(4,.int .i64),(8,.int .i64)],[],[],[],[]⟩,⟨10,[(4,.int .i64)],[],[],[],[]⟩] Tryz.f175
theorem w3778{c:ByteArray}{e:ByteArray}:FX X 177 #[.string c,.string e] h A (.sem false (Builtin.len_ #[9] 3 #[.string e]) fun d=>.ui d fun b=>bif b==0 then .cI 205 #[.string c] fun b=>.rt (.int .i64 (wrap .i64 (b+1))) else .sem false (Builtin.len_ #[9] 3 #[.string e]) fun d=>.ui d fun b=>bif b==1 then .sem false (Instr.index 9 (.string e) (.int .i64 0)) fun d=>.unI .u8 d fun b=>.callv false (.func (Fn.func 207) #[] #[]) #[.string c,.int .u8 b] fun d=>.ui d fun b=>.rt (.int .i64 b) else .loop [.string c,.int .i64 0,.int .i64 0] (fun a=>.popStr a fun c a=>.pi a fun b a=>.pi a fun f a=>.unNil a (.cI 178 #[.string c,.string e] fun g=>bif g==-1 then .rn [.string c,f,f] else .sem false (Builtin.len_ #[9] 3 #[.string e]) fun d=>.ui d fun i=>.sem false (Instr.sliceAt 9 (.string c) (some (.int .i64 (wrap .i64 (g+i)))) none none) fun j=>.unStr j fun c=>.ag [.string c,b,.int .i64 (wrap .i64 (f+1))])) (fun a=>.popStr a fun c a=>.pi a fun b a=>.pi a fun f a=>.unNil a (.rt (.int .i64 b))) (fun a=>.popStr a fun c a=>.pi a fun b a=>.pi a fun f a=>.unNil a (.rt (.int .i64 b))) fun k l=>.fail):=fk [] [⟨0,[(0,.str),(4,.int .i64),(5,.int .i64)],[],[],[],[]⟩] [] Tryz.f177
theorem w3779{a:ByteArray}{b:ByteArray}:FX X 178 #[.string a,.string b] h A (.cI 175 #[.string a,.string b] fun c=>.rt (.int .i64 c)):=fk [] [] [] Tryz.f178
end Go.Y
end
section
namespace Go.TM.Tp
section
variable {P:Program} {E:Halt->Cells->Prop} {h:Cells}
theorem lwp_ptrEq{Q:Bool->Cells->Prop}{t te:TypeId}{j:TypeInfo}{d:Nat}{a b:Option Addr}(g:P.underlying t=some (.pointer te))(f:P.info? te=some j)(h0:j.size≠0)(c:a=none\/b=none\/a=b)(e:Q (decide (a=b)) h):Qe P (Op.equalIn (d+1) t (.pointer a) (.pointer b)) Q E h:=by
 unfold Op.equalIn;simp only[lwp_bind,Qd g];cases a with
 | none =>
  simp only[Qg];cases b<;>simpa using e
 | some a =>
  cases b with
  | none=>simp only[Qg];simpa using e
  | some b =>
   have:a=b:=by
    rcases c with h|h|h
    ·cases h
    ·cases h
    ·exact Option.some.inj h
   subst this;simp only[lwp_bind,Q2 f];rw[if_pos h0];unfold sameAddr;simp only[beq_self_eq_true,if_true,Qg];simpa using e
end
section
variable {X:XP} {P:Program} {Q:Leaf->LH->Prop}
variable {h:LH}{K:Value->T}{t te:TypeId}{x y:Operand}{a b:Option Addr}
theorem t_eqP{j:TypeInfo}(f:P.underlying t=some (.pointer te))(d:P.info? te=some j)(h0:j.size≠0)(c:a=none\/b=none\/a=b)(e:(K (.bool (decide (a=b)))).wp X P Q h) :
  (T.sem false (Sem.bind (eqGuard .eql t x y (.pointer a) (.pointer b)) fun _=>binOp .eql t (.pointer a) (.pointer b)) K).wp X P Q h:=by
 refine Jh (A:=fun w h'=>w=.bool (decide (a=b))/\h'=h.get) (Qz _ _ ?_) (by rintro w h' ⟨rfl,rfl⟩;exact e);unfold eqGuard;simp only[Bool.not_true,Bool.false_eq_true,if_false,Qg];unfold binOp;simp only[lwp_bind];exact lwp_ptrEq f d h0 c ⟨rfl,rfl⟩
theorem t_neP{j:TypeInfo}(f:P.underlying t=some (.pointer te))(d:P.info? te=some j)(h0:j.size≠0)(c:a=none\/b=none\/a=b)(e:(K (.bool (!decide (a=b)))).wp X P Q h) :
  (T.sem false (Sem.bind (eqGuard .neq t x y (.pointer a) (.pointer b)) fun _=>binOp .neq t (.pointer a) (.pointer b)) K).wp X P Q h:=by
 refine Jh (A:=fun w h'=>w=.bool (!decide (a=b))/\h'=h.get) (Qz _ _ ?_) (by rintro w h' ⟨rfl,rfl⟩;exact e);unfold eqGuard;simp only[Bool.not_true,Bool.false_eq_true,if_false,Qg];unfold binOp;simp only[lwp_bind];exact lwp_ptrEq f d h0 c ⟨rfl,rfl⟩
end
end Go.TM.Tp
end
section
namespace Go.TM
def Ov(h0:Cells)(h h':LH):Prop:=(∀ r x,h0 r≠none->h.get r=some x->h'.get r=some x)/\h'.chans=h.chans/\h'.pend=h.pend/\h'.todo=h.todo
theorem H7{h0 h h':LH}(a:h0.le h)(o:Ov h0.get h h'):h0.le h':=⟨fun r x b=>o.1 r x (by rw[b];simp) (a.1 r x b),o.2.1.trans a.2.1,o.2.2.1.trans a.2.2.1,o.2.2.2.trans a.2.2.2⟩
def But(m:Nat)(h h':LH):Prop:=(∀ r,r≠m->h'.get r=h.get r)/\h'.chans=h.chans/\h'.pend=h.pend/\h'.todo=h.todo
theorem But.ov{m:Nat}{h0:Cells}{h h':LH}(b:But m h h')(hm:h0 m=none):Ov h0 h h':=⟨fun r x hr a=>by rw[b.1 r (fun e=>hr (by rw[e];exact hm))];exact a,b.2⟩
theorem Zx{h:Cells}{b i:Nat}{m:Bool}{cs:Array Value}{el:TypeId}{a:Nat×Nat}{v:Value}(hb:h b=some (m,.cells cs el a))(hv:cs[i]?=some v):h.cell? ⟨b,i,none⟩=some v:=by
 unfold Cells.cell?;rw[hb];exact hv
section
variable {X:XP} {P:Program} {Q:Leaf->LH->Prop}
variable {h:LH}{el:TypeId}{cs:Array Value}
theorem Yh{k:Nat->T}(a:∀ r h1,h.le h1->h.get r=none->h1.get r=some (true,.cells cs el (0,0))->(k r).wp X P Q h1):(T.new el cs k).wp X P Q h :=
 Kg fun r hr=>a r _ (Q1 hr) hr (Qn _ _ _)
theorem K0{k:T}{b i:Nat}{v v₀:Value}(hb:h.get b=some (true,.cells cs el (0,0)))(h1:isOne v=true)(hv:cs[i]?=some v₀)(a:∀ h1:LH,But b h h1->h1.get b=some (true,.cells (cs.setIfInBounds i v) el (0,0))->k.wp X P Q h1):(T.store ⟨b,i,none⟩ v k).wp X P Q h:=by
 refine t_store h1 ⟨_,hb⟩ (Zx hb hv) (by simp[Cells.frozen?,hb]) (a _ ⟨fun r hr=>?_,rfl,rfl,rfl⟩ ?_)
 ·show h.get.setCell _ _ r=_;unfold Cells.setCell;rw[if_neg hr]
 ·show h.get.setCell _ _ b=_;unfold Cells.setCell;rw[if_pos rfl,hb];rfl
end
end Go.TM
end
section
namespace Go.Y.Txt
open Go.TM.Tp
attribute [local irreducible] T.wp CV FWK
theorem undPB:Tryz.prog.underlying 77=some (.pointer 80):=by kernel_rfl
theorem undUP:Tryz.prog.underlying 231=some .unsafePointer:=by kernel_rfl
theorem infB:(Tryz.prog.info? 80).map (·.size)=some 2:=by kernel_rfl
theorem liesB:liesAt Tryz.prog Tryz.prog.depth 80 (2 / Tryz.prog.cellsOf 80) 0 80 1=true:=by kernel_rfl
theorem infoB:∃ j,Tryz.prog.info? 80=some j/\j.size=2:=by
 have h:=infB;cases e:Tryz.prog.info? 80 with
 | none=>rw[e]at h;cases h
 | some j=>rw[e]at h;exact⟨j,rfl,Option.some.inj h⟩
theorem cv_noEscape{X:XP}{h:LH}(v:Value):CV X Tryz.prog (.func (.func 146) #[] #[]) #[v] h (fun r h'=>r=v/\h'=h):=by
 refine Dl (e:=Extern.AbiNoEscape.same) (fd:=Tryz.f146) (by kernel_rfl) (by kernel_rfl) (by kernel_rfl) (by kernel_rfl) (by kernel_rfl) ?_;show Qe _ (pure v) _ _ _;rw[Qg];exact⟨rfl,rfl⟩
theorem c3739{h:LH}{r:Nat}{p:Option Addr}{v:Value}(hb:h.get r=some (true,.cells #[.pointer p,v] 80 (0,0)))(l:p=none\/p=some ⟨r,0,none⟩) :
  FW X0 Tryz.prog 84 #[.pointer (some ⟨r,0,none⟩)] h fun w h'=>w=.tuple #[]/\But r h h'/\h'.get r=some (true,.cells #[.pointer (some ⟨r,0,none⟩),v] 80 (0,0)):=by
 obtain⟨j,b,k⟩:=infoB;have c:j.size≠0:=by omega
 have hc:0<(#[Value.pointer p,v]:Array Value).size:=Nat.zero_lt_succ _;refine w3739 Qr ?_;have f:h.get.cell? ((⟨r,0,none⟩ : Addr).add 0)=some (.pointer p):=Zx (i:=0) hb rfl;refine gS2 rfl (gL3 f ?_);refine t_eqP undPB b c (.inr (.inl rfl)) ?_;refine yI (fun e=>?_) (fun e=>?_)
 ·have a:p=none:=by simpa using e
  refine Jh (A:=fun w h'=>w=.pointer (some ⟨r,0,none⟩)/\h'=h.get) ?_ ?_
  ·have c1:=lwp_toUnsafe (P:=Tryz.prog) (E:=fun _ _=>False) (Q:=fun w h'=>w=.pointer (some ⟨r,0,none⟩)/\h'=h.get) undPB undUP b c hb hc (And.intro rfl rfl);exact c1
  rintro _ _ ⟨rfl,rfl⟩;refine gZ ?_;refine J9 (cv_noEscape _) ?_;rintro _ _ ⟨rfl,rfl⟩;refine gZ ?_;refine Jh (A:=fun w h'=>w=.pointer (some ⟨r,0,none⟩)/\h'=h.get) ?_ ?_
  ·have c1:=lwp_fromUnsafe (P:=Tryz.prog) (E:=fun _ _=>False) (Q:=fun w h'=>w=.pointer (some ⟨r,0,none⟩)/\h'=h.get) undUP undPB b hb liesB (And.intro rfl rfl);exact c1
  rintro _ _ ⟨rfl,rfl⟩;refine gZ ?_;refine K0 (i:=0) hb rfl (by rfl) fun h1 g a=>?_;exact Qh ⟨rfl,g,a⟩
 ·have a:p=some ⟨r,0,none⟩:=by
   rcases l with h1|h1
   ·rw[h1]at e;simp at e
   ·exact h1
  refine gS2 rfl (gL3 f ?_);refine t_neP undPB b c (.inr (.inr a)) ?_;refine gZ ?_;refine Qt (fun d=>by rw[a]at d;simp at d) (fun _=>?_);refine Qh ⟨rfl,⟨fun _ _=>rfl,rfl,rfl,rfl⟩,?_⟩;rw[<- a];exact hb
end Go.Y.Txt
end
namespace Go.TM.Tp
section
open Go.Lib (decDigits)
abbrev Bs:=List UInt8
def cut(c:UInt8):Bs->List Bs
 | []=>[[]]
 | b::l=>if b=c then []::cut c l else (b::(cut c l).headD [])::(cut c l).tail
theorem Z4(c:UInt8):∀ l,cut c l≠[]
 | []=>by simp[cut]
 | b::l=>by unfold cut;split<;>simp
theorem Zw{c:UInt8}:∀ {l:Bs},c∉l->cut c l=[l]
 | [],_=>rfl
 | b::l,h=>by
  have h1:b≠c:=fun e=>h (by simp[e]);have h2:c∉l:=fun e=>h (by simp[e]);unfold cut;rw[if_neg h1,Zw h2];rfl
theorem Z8{c:UInt8}:∀ {a l:Bs},c∉a->cut c (a++c::l)=a::cut c l
 | [],l,_=>by simp[cut]
 | b::a,l,h=>by
  have h1:b≠c:=fun e=>h (by simp[e]);have h2:c∉a:=fun e=>h (by simp[e]);rw[List.cons_append,cut,if_neg h1,Z8 h2];rfl
theorem Z5(c:UInt8):∀ l:Bs,c∉l\/∃ a r,l=a++c::r/\c∉a
 | []=>.inl (by simp)
 | b::l=>by
  by_cases h:b=c
  ·exact .inr ⟨[],l,by simp[h],by simp⟩
  ·rcases Z5 c l with h1|⟨a,r,rfl,h1⟩
   ·exact .inl (by simp[h1];exact fun e=>h e.symm)
   ·exact .inr ⟨b::a,r,rfl,by simp[h1];exact fun e=>h e.symm⟩
def linesL(t:Bs):List Bs:=if (cut 10 t).getLast?=some [] then (cut 10 t).dropLast else cut 10 t
theorem lines_nil:linesL []=[]:=rfl
theorem lines_one{t:Bs}(h:(10:UInt8)∉t)(h0:t≠[]):linesL t=[t]:=by
 unfold linesL;rw[Zw h];simp[h0]
theorem lines_cons{a r:Bs}(h:(10:UInt8)∉a):linesL (a++10::r)=a::linesL r:=by
 unfold linesL;rw[Z8 h];have b:=Z4 10 r;rw[List.getLast?_cons_of_ne_nil b];split
 ·rw[List.dropLast_cons_of_ne_nil b]
 ·rfl
/-! ### Joined -/
def joinS(c:UInt8):List Bs->Bs
 | []=>[]
 | [a]=>a
 | a::b::l=>a++c::joinS c (b::l)
theorem joinS_cons{c:UInt8}{a:Bs}{l:List Bs}(h:l≠[]):joinS c (a::l)=a++c::joinS c l:=by
 cases l with
 | nil=>exact absurd rfl h
 | cons b l=>rfl
def lineS(w:Bs)(fs:List Bs):Bs:=w++58::(fs.flatMap fun f=>f++[59])++[10]
theorem flat_join:∀ {l:List Bs},l≠[]->(l.flatMap fun f=>f++[59])=joinS 59 l++[59]:=by
 intro l b
 induction l with
 | nil=>exact absurd rfl b
 | cons a l c =>
  by_cases h0:l=[]
  ·subst h0;simp[joinS]
  ·rw[List.flatMap_cons,c h0,joinS_cons h0];simp
theorem lineS_join{w:Bs}{fs:List Bs}(h:fs≠[]):lineS w fs=w++58::(joinS 59 fs++[59,10]):=by
 unfold lineS;rw[flat_join h];simp
def fieldsL(l:Bs):Option (Bs×List Bs) :=
 match cut 58 l with
 | w::p::ps =>
  let r:=joinS 58 (p::ps)
  if w=[] then none else if r.getLast?=some 59 then some (w,cut 59 r.dropLast) else none
 | _=>none
theorem Ui(c:UInt8):∀ l:Bs,joinS c (cut c l)=l
 | []=>rfl
 | b::l=>by
  have a:=Z4 c l;unfold cut;split
  ·rename_i h;rw[joinS_cons a,Ui c l,h];rfl
  ·have d:=Ui c l;cases e:cut c l with
   | nil=>exact absurd e a
   | cons x y =>
    rw[e]at d;cases y with
    | nil=>simp[joinS]at d ⊢;exact d
    | cons z y=>simp[joinS]at d ⊢;exact d
theorem fields_none{l:Bs}(h:(58:UInt8)∉l):fieldsL l=none:=by
 unfold fieldsL;rw[Zw h]
theorem fields_some{w r:Bs}(h:(58:UInt8)∉w):fieldsL (w++58::r)=if w=[] then none else if r.getLast?=some 59 then some (w,cut 59 r.dropLast) else none:=by
 have b:=Z4 58 r;unfold fieldsL;rw[Z8 h];cases e:cut 58 r with
 | nil=>exact absurd e b
 | cons p ps =>
  have:=Ui 58 r;rw[e]at this;simp only[this]
/-! ### a -/
def digit(b:UInt8):Bool:=48<=b&&b<=57
def valL(l:Bs):Nat:=l.foldl (fun n b=>10*n+(b.toNat-48)) 0
def numL(l:Bs):Option Nat:=if (1<=l.length/\l.length<=9)/\l.all digit=true/\(l.head?=some 48->l.length=1) then some (valL l) else none
def numsL(l:List Bs):Option (List Nat):=l.mapM numL
theorem numsL_nil:numsL []=some []:=rfl
theorem W2{a:Bs}{l:List Bs}:numsL (a::l)=(numL a).bind fun n=>(numsL l).bind fun m=>some (n::m):=by
 unfold numsL;rw[List.mapM_cons];rfl
def listL(l:Bs):Option (List Nat):=if l=[] then some [] else numsL (cut 44 l)
theorem small_byte{k:Nat}(h:k<10):(UInt8.ofNat (48+k)).toNat=48+k:=by
 rw[UInt8.toNat_ofNat'];omega
theorem dig_len{k:Nat}:∀ {n:Nat},n<10^(k+1)->(decDigits n).length<=k+1:=by
 induction k with
 | zero =>
  intro n h;rw[decDigits,dif_pos (by simpa using h)];simp
 | succ k a =>
  intro n h;rw[decDigits];split
  ·simp
  ·have:n / 10<10^(k+1):=by
    rw[Nat.pow_succ]at h;exact Nat.div_lt_of_lt_mul (by omega)
   have:=a this;simp;omega
def listS(l:List Nat):Bs:=joinS 44 (l.map decDigits)
end
section
theorem str_at{l:Bs}{i:Nat}(h:i<l.length):(str l)[i]! = l[i]:=by
 have h1:i<(str l).size:=by rw[J1];exact h
 rw[getElem!_pos (str l) i h1];show (str l).data[i]=_;simp[str]
theorem idx_none{c:UInt8}{l:Bs}(h:c∉l):((List.range (str l).size).find? fun i=>((str l)[i]!)==c)=none:=by
 rw[List.find?_eq_none];intro i a;rw[List.mem_range,J1]at a;rw[str_at a];simp only[beq_iff_eq];intro e;exact h (e▸List.getElem_mem a)
theorem idx_some{c:UInt8}{a r:Bs}(h:c∉a):((List.range (str (a++c::r)).size).find? fun i=>((str (a++c::r))[i]!)==c)=some a.length:=by
 rw[List.find?_range_eq_some];refine⟨?_,?_,fun j b=>?_⟩
 ·rw[str_at (by simp)];simp
 ·rw[List.mem_range,J1];simp
 ·rw[str_at (by simp;omega),List.getElem_append_left b];simp only[Bool.not_eq_true',beq_eq_false_iff_ne];intro e;exact h (e▸List.getElem_mem b)
def firstI(c:UInt8)(l:Bs):Int:=match (cut c l) with
 | a::_::_=>a.length
 | _=>-1
theorem D0{c:UInt8}{l:Bs}(h:c∉l):firstI c l = -1:=by unfold firstI;rw[Zw h]
theorem W5{c:UInt8}{a r:Bs}(h:c∉a):firstI c (a++c::r)=a.length:=by
 unfold firstI;rw[Z8 h];have:=Z4 c r;cases e:cut c r with
 | nil=>exact absurd e this
 | cons x y=>rfl
theorem lwp_indexByte{P:Program}{l:Bs}{c:UInt8}{Q:Value->Cells->Prop}{E:Halt->Cells->Prop}{h:Cells}(d:Q (.int .i64 (firstI c l)) h):Qe P (Extern.BytealgIndexByte.indexByte #[.string (str l),.int .u8 (c.toNat:Int)]) Q E h:=by
 show Qe P (do
  let b <- Extern.Bytes.bytesOf (.string (str l));let c <- Extern.Bytes.asByte (.int .u8 (c.toNat:Int))
  match (List.range b.size).find? fun i=>(b[i]!)==c with
  | some i=>pure (goInt i)
  | none=>pure (goInt (-1))) Q E h
 simp only[Extern.Bytes.bytesOf,Extern.Bytes.asByte,lwp_bind,Qg];have hc:((c.toNat:Int)).toNat.toUInt8=c:=by simp
 rw[hc];rcases Z5 c l with h1|⟨a,r,rfl,h1⟩
 ·rw[idx_none h1];rw[D0 h1]at d;exact d
 ·rw[idx_some h1];rw[W5 h1]at d;exact d
end
end Go.TM.Tp
section
namespace Go.TM
variable {P:Program} {X:XP} {Q:Leaf->LH->Prop}
theorem G9{α:Type}{Enc:α->List Value->Prop}{h h₀:LH}{K:Value->T}{ts:Array TypeId}{ty t el:TypeId}{s f:Nat}{z:Value}{parts:Array (Nat×Value)}{p:Option Addr}{n c:Nat}{l:List α}(x:α)(ws:List Value)(h0:ts[0]?=some t)(h1:ts[1]?=some t)(hu:P.underlying t=some (.slice el))
 (u:(P.info? el).map (fun i=>(i.size,i.bytes,i.zero))=some (s,f,some z))(q:z.cells.size=s)(hb:f<=1024)(A:1*s<=2^24/\1*s≠0)(B:Instr.fill (fun i=>some (i*s,s)) ((Array.range (1*s)).map (z.cells[·%z.cells.size]!)) parts.toList=some ws.toArray)
 (E:ws.length=s)(one:∀ v∈ws,isOne v=true)(F:n+1<=2^30)(g:Growing Enc el s h₀.get h.get p n c l)(hle:h₀.le h)(he:Enc x ws)
 (D:∀ o c' h',h₀.le h'->(∀ r y,(∀ a,p=some a->a.block≠r)->h.get r=some y->h'.get r=some y)->Growing Enc el s h₀.get h'.get o (n+1) c' (l++[x])->(K (.slice o (n+1) c')).wp X P Q h') :
  (T.sem false (Instr.buildSlice t 1 parts) fun v=>T.unS v fun a m H=>T.sem false (Builtin.append_ ts ty #[.slice p n c,.slice a m H]) K).wp X P Q h:=by
 refine Dc hu u A.1 A.2 B fun r hr=>?_;have e:h.le _:=Q1 (x:=(true,.cells ws.toArray el (0,0))) hr;refine gG ?_;refine t_grow (h₀:=h₀) (x:=x) (ws:=ws) h0 h1 hu hu u q hb F (g.le e.1) (LH.le_trans hle e) he E ?_ one fun o c' h' k d g'=>D o c' h' k (fun b y hb G=>d b y hb (e.1 b y G)) g';intro j w C;rw[Qa,Nat.zero_add];exact Q6 (by simpa using C)
end Go.TM
namespace Go.TM
variable {P:Program} {X:XP} {Q:Leaf->LH->Prop}
variable {h:LH}{k:Value->T}{t el:TypeId}{n s:Nat}{z:Value}
theorem Zg{b:Nat}{parts:Array (Nat×Value)}(ws:List Value)(hu:P.underlying t=some (.slice el))(d:(P.info? el).map (fun i=>(i.size,i.bytes,i.zero))=some (s,b,some z))(g:n*s<=2^24)(a:n*s≠0)
 (c:Instr.fill (fun i=>some (i*s,s)) ((Array.range (n*s)).map (z.cells[·%z.cells.size]!)) parts.toList=some ws.toArray)
 (f:∀ r h',h.le h'->h.get r=none->(∀ (j:Nat) w,ws[j]?=some w->h'.get.cell? (Addr.add ⟨r,0,none⟩ j)=some w)->(k (.slice (some ⟨r,0,none⟩) n n)).wp X P Q h'):(T.sem false (Instr.buildSlice t n parts) k).wp X P Q h :=
 Dc hu d g a c fun r hr=>f r _ (Q1 hr) hr fun j w e=>by
  rw[Qa,Nat.zero_add];exact Q6 (by simpa using e)
theorem Db{α:Type}{Enc:α->List Value->Prop}{h₀:LH}{ts:Array TypeId}{ty:TypeId}{b:Nat}{p:Option Addr}{c u r:Nat}{l:List α}(x:α)(ws:List Value)(h0:ts[0]?=some t)(h1:ts[1]?=some t)(hu:P.underlying t=some (.slice el))
 (f:(P.info? el).map (fun i=>(i.size,i.bytes,i.zero))=some (s,b,some z))(d:z.cells.size=s)(hb:b<=1024)(q:n+1<=2^30)(g:Growing Enc el s h₀.get h.get p n c l)(hle:h₀.le h)(he:Enc x ws)(o:ws.length=s)(hc:∀ (j:Nat) w,ws[j]?=some w->h.get.cell? (Addr.add ⟨r,0,none⟩ j)=some w)(one:∀ v∈ws,isOne v=true)
 (m:∀ e c' h',h₀.le h'->(∀ r y,(∀ a,p=some a->a.block≠r)->h.get r=some y->h'.get r=some y)->Growing Enc el s h₀.get h'.get e (n+1) c' (l++[x])->(k (.slice e (n+1) c')).wp X P Q h'):(T.sem false (Builtin.append_ ts ty #[.slice p n c,.slice (some ⟨r,0,none⟩) 1 u]) k).wp X P Q h :=
 t_grow (h₀:=h₀) (x:=x) (ws:=ws) h0 h1 hu hu f d hb q g hle he o hc one m
end Go.TM
namespace Go.TM
variable {P:Program} {X:XP} {Q:Leaf->LH->Prop}
variable {h:Cells}{r o:Nat}{cs:Array Value}{el:TypeId}{v:Value}
theorem setCell_updU{a:Nat×Nat}:(h.upd r (true,.cells cs el a)).setCell ⟨r,o,none⟩ v=h.upd r (true,.cells (cs.setIfInBounds o v) el a):=by
 funext k;unfold Cells.setCell Cells.upd;by_cases e:k=r
 ·subst e;simp
 ·simp[e]
theorem frozen_upd:(h.upd r (true,.cells cs el (0,0))).frozen? ⟨r,o,none⟩=false:=by
 unfold Cells.frozen?;simp[Cells.upd]
theorem D6{h:LH}{a:Addr}{k:T}(b:a=⟨r,o,none⟩)(h1:isOne v=true)(d:o<cs.size)(c:k.wp X P Q { h with get:=h.get.upd r (true,.cells (cs.setIfInBounds o v) el (0,0)) }) :
  (T.store a v k).wp X P Q { h with get:=h.get.upd r (true,.cells cs el (0,0)) }:=by
 subst b;refine t_store (v₀:=cs[o]) h1 ⟨_,Qn _ _ _⟩ (Q6 (by simp[d])) frozen_upd ?_;show k.wp X P Q { h with get:=(h.get.upd r (true,.cells cs el (0,0))).setCell ⟨r,o,none⟩ v };rw[setCell_updU];exact c
def BoolE(h:Cells)(a:Addr)(b:Bool):Prop:=h.cell? (a.add 0)=some (.bool b)
theorem BoolE.grow:Grow BoolE:=fun _ _ _ _ a h=>a _ _ h
end Go.TM
end
section
namespace Go.TM
section
variable {P:Program} {X:XP} {Q:Leaf->LH->Prop}
theorem t_sliceLow{h:LH}{K:Value->T}{t el:TypeId}{s b:Nat}{z:Option Value}{p:Option Addr}{n c i:Nat}(hu:P.underlying t=some (.slice el))(e:(P.info? el).map (fun i=>(i.size,i.bytes,i.zero))=some (s,b,z))(f:i<=n)
 (g:(K (.slice (if c=i then p else p.map (·.add (i*s))) (n-i) (c-i))).wp X P Q h):(T.sem false (Instr.sliceAt t (.slice p n c) (some (.int .i64 (i:Int))) none none) K).wp X P Q h:=by
 obtain⟨inf,a,d,_,_⟩:=Z3 e;refine Jh (A:=fun v h'=>v=.slice (if c=i then p else p.map (·.add (i*s))) (n-i) (c-i)/\h'=h.get) ?_ (by rintro v h' ⟨rfl,rfl⟩;exact g);unfold Instr.sliceAt;simp only[lwp_bind,Qd hu];unfold Instr.slice;simp only[lwp_bind,Qd hu];unfold Instr.sliceBounds Instr.sliceBound;simp only[lwp_bind,Qg,asIntOf,asInt];rw[if_pos (show 0<=(i:Int)/\(i:Int)<=(n:Int) by omega)];simp only[Qg,Q2 a,Int.toNat_natCast,d];exact⟨trivial,trivial⟩
end
theorem Sl.drop{α:Type}{E:Cells->Addr->α->Prop}{k:Nat}{h:Cells}{p:Option Addr}{n:Nat}{l:List α}(s:Sl E k h p n l){c i:Nat}(hc:n<=c):Sl E k h (if c=i then p else p.map (·.add (i*k))) (n-i) (l.drop i):=by
 refine⟨by rw[List.length_drop,s.1],by rw[List.length_drop];have:=s.2.1;omega,fun j x b=>?_⟩;rw[List.getElem?_drop]at b;have f:=(List.getElem?_eq_some_iff.1 b).1;have g:=s.1;obtain⟨a,e,d⟩:=s.2.2 _ x b;rw[if_neg (by omega),e];refine⟨a.add (i*k),rfl,?_⟩;rw[Gp,<- Nat.add_mul];exact d
theorem Rows.mono{α:Type}{Enc a:α->List Value->Prop}(he:∀ x ws,Enc x ws->a x ws){vs:List Value}{l:List α}(r:Rows Enc vs l):Rows a vs l:=by
 induction r with
 | nil=>exact .nil
 | snoc r h b=>exact b.snoc (he _ _ h)
section
variable {P:Program} {X:XP} {Q:Leaf->LH->Prop}
end
end Go.TM
end
namespace Go.Y
section
attribute [local irreducible] T.wp CV FWK
theorem J7{P:Program}{X:XP}{Q:Leaf->LH->Prop}{h:LH}{K:Value->T}{t el:TypeId}{s b:Nat}{z:Option Value}{p:Option Addr}{n c i:Nat}(hu:P.underlying t=some (.slice el))(f:(P.info? el).map (fun i=>(i.size,i.bytes,i.zero))=some (s,b,z))(g:i<=c)
 (j:(K (.slice p i c)).wp X P Q h):(T.sem false (Instr.sliceAt t (.slice p n c) none (some (.int .i64 (i:Int))) none) K).wp X P Q h:=by
 obtain⟨inf,a,d,_,_⟩:=Z3 f;refine Jh (A:=fun v h'=>v=.slice p i c/\h'=h.get) ?_ (by rintro v h' ⟨rfl,rfl⟩;exact j);unfold Instr.sliceAt;simp only[lwp_bind,Qd hu];unfold Instr.slice;simp only[lwp_bind,Qd hu];unfold Instr.sliceBounds Instr.sliceBound;simp only[lwp_bind,Qg,asIntOf];rw[if_pos (show 0<=(i:Int)/\(i:Int)<=(c:Int) by omega)];simp only[Qg,Q2 a,Int.toNat_natCast,d,Nat.zero_mul,Nat.sub_zero];have e:(p.map fun x:Addr=>x.add 0)=p:=by cases p<;>simp[Addr.add]
 rw[e];simp
end
section
set_option maxHeartbeats 0
set_option linter.unusedVariables false
variable {X:XP} {h:LH} {A:Value->LH->Prop}
variable {a b c d e f g i j k l m:Int}{n o p q r s t u v w x y z:Nat}{B C D E F G H I J K L M:Option Addr}
theorem w3722{f:ByteArray}:FX X 43 #[.string f,.slice B n o] h A (.sem false (Sem.bind (eqGuard BinOp.add 9 (Operand.tmp 7) (Operand.const (.string { data:=#[58] })) (.string f) (.string { data:=#[58] })) fun e=>binOp BinOp.add 9 (.string f) (.string { data:=#[58] })) fun d=>.unStr d fun b=>.loop [.string b,.int .i64 0] (fun a=>.popStr a fun b a=>.pi a fun c a=>.unNil a (bif decide (c<(↑n:Int)) then .need (0<=c/\c<(↑n:Int)) (.someA B fun i=>.loadStr (i.add (c.toNat*1)) fun g=>.sem false (Sem.bind (eqGuard BinOp.add 9 (Operand.tmp 15) (Operand.tmp 19) (.string b) (.string g)) fun e=>binOp BinOp.add 9 (.string b) (.string g)) fun d=>.unStr d fun b=>.sem false (Sem.bind (eqGuard BinOp.add 9 (Operand.tmp 20) (Operand.const (.string { data:=#[59] })) (.string b) (.string { data:=#[59] })) fun e=>binOp BinOp.add 9 (.string b) (.string { data:=#[59] })) fun d=>.unStr d fun b=>.ag [.string b,.int .i64 (wrap .i64 (c+1))]) else .bk [.string b,c])) (fun a=>.popStr a fun b a=>.pi a fun c a=>.unNil a (.sem false (Sem.bind (eqGuard BinOp.add 9 (Operand.tmp 22) (Operand.const (.string { data:=#[10] })) (.string b) (.string { data:=#[10] })) fun e=>binOp BinOp.add 9 (.string b) (.string { data:=#[10] })) fun d=>.unStr d fun b=>.rt (.string b))) (fun a=>.popStr a fun b a=>.pi a fun c a=>.unNil a (.rt (.string { data:=#[] }))) fun j k=>.fail):=fk [] [⟨0,[(5,.str),(6,.int .i64)],[],[],[],[]⟩] [] Tryz.f43
theorem w3723:FX X 44 #[a] h A (bif decide (a<10) then .sem false (Instr.buildSlice 78 1 #[(0,.int .u8 (IntKind.wrap .u8 (wrap .i64 (48+a))))]) fun b=>.unS b fun e a f=>.sem false (convert 78 9 (.slice e a f)) fun b=>.unStr b fun c=>.rt (.string c) else .need ((10:Int)≠0) (.need ((10:Int)≠0) (.both (.cl 44 #[.int .i64 (wrap .i64 (Int.tdiv a 10))] fun b=>.unStr b fun c=>.nds [.val (.int .u8 (IntKind.wrap .u8 (wrap .i64 (48+Int.tmod a 10)))),.val (.int .i64 (wrap .i64 (48+Int.tmod a 10)))] (.need ((10:Int)≠0) (.nds [.val (.int .i64 (Int.tmod a 10)),a,a] (.sem false (Instr.buildSlice 78 1 #[(0,.int .u8 (IntKind.wrap .u8 (wrap .i64 (48+Int.tmod a 10))))]) fun b=>.unS b fun e g f=>.nd (.int .i64 (wrap .i64 (48+Int.tmod a 10))) (.need ((10:Int)≠0) (.nds [.val (.int .i64 (Int.tmod a 10)),a,a] (.sem false (convert 78 9 (.slice e g f)) fun b=>.unStr b fun d=>.nd (.int .i64 (wrap .i64 (48+Int.tmod a 10))) (.need ((10:Int)≠0) (.nds [.val (.int .i64 (Int.tmod a 10)),a,a] (.sem false (Sem.bind (eqGuard BinOp.add 9 (Operand.tmp 12) (Operand.tmp 18) (.string c) (.string d)) fun i=>binOp BinOp.add 9 (.string c) (.string d)) fun b=>.unStr b fun c=>.nd (.int .i64 (wrap .i64 (48+Int.tmod a 10))) (.need ((10:Int)≠0) (.nds [.val (.int .i64 (Int.tmod a 10)),a,a] (.rt (.string c)))))))))))))) (.sem false (Instr.buildSlice 78 1 #[(0,.int .u8 (IntKind.wrap .u8 (wrap .i64 (48+Int.tmod a 10))))]) fun b=>.unS b fun e g f=>.nd (.int .i64 (wrap .i64 (48+Int.tmod a 10))) (.need ((10:Int)≠0) (.nds [.val (.int .i64 (Int.tmod a 10)),a] (.need ((10:Int)≠0) (.nds [.val (.int .i64 (wrap .i64 (Int.tdiv a 10))),a] (.both (.cl 44 #[.int .i64 (wrap .i64 (Int.tdiv a 10))] fun b=>.unStr b fun c=>.nd (.int .i64 (wrap .i64 (48+Int.tmod a 10))) (.need ((10:Int)≠0) (.nds [.val (.int .i64 (Int.tmod a 10)),a,a] (.sem false (convert 78 9 (.slice e g f)) fun b=>.unStr b fun d=>.nd (.int .i64 (wrap .i64 (48+Int.tmod a 10))) (.need ((10:Int)≠0) (.nds [.val (.int .i64 (Int.tmod a 10)),a,a] (.sem false (Sem.bind (eqGuard BinOp.add 9 (Operand.tmp 12) (Operand.tmp 18) (.string c) (.string d)) fun i=>binOp BinOp.add 9 (.string c) (.string d)) fun b=>.unStr b fun c=>.nd (.int .i64 (wrap .i64 (48+Int.tmod a 10))) (.need ((10:Int)≠0) (.nds [.val (.int .i64 (Int.tmod a 10)),a,a] (.rt (.string c))))))))))) (.sem false (convert 78 9 (.slice e g f)) fun b=>.unStr b fun c=>.nd (.int .i64 (wrap .i64 (48+Int.tmod a 10))) (.need ((10:Int)≠0) (.nds [.val (.int .i64 (Int.tmod a 10)),a] (.need ((10:Int)≠0) (.nds [.val (.int .i64 (wrap .i64 (Int.tdiv a 10))),a] (.cl 44 #[.int .i64 (wrap .i64 (Int.tdiv a 10))] fun b=>.unStr b fun d=>.nd (.int .i64 (wrap .i64 (48+Int.tmod a 10))) (.need ((10:Int)≠0) (.nds [.val (.int .i64 (Int.tmod a 10)),a,a] (.sem false (Sem.bind (eqGuard BinOp.add 9 (Operand.tmp 12) (Operand.tmp 18) (.string d) (.string c)) fun i=>binOp BinOp.add 9 (.string d) (.string c)) fun b=>.unStr b fun c=>.nd (.int .i64 (wrap .i64 (48+Int.tmod a 10))) (.need ((10:Int)≠0) (.nds [.val (.int .i64 (Int.tmod a 10)),a,a] (.rt (.string c)))))))))))))))))))))):=fk [] [] [] Tryz.f44
theorem w3725:FX X 46 #[.slice B n o] h A (.loop [.slice none 0 0,.int .i64 0] (fun a=>.popS a fun c b d a=>.pi a fun e a=>.unNil a (bif decide (e<(↑n:Int)) then .need (0<=e/\e<(↑n:Int)) (.someA B fun i=>.li (i.add (e.toNat*1)) fun l=>.cl 44 #[l] fun f=>.unStr f fun g=>.sem false (Instr.buildSlice 81 1 #[(0,.string g)]) fun f=>.unS f fun j m k=>.sem false (Builtin.append_ #[81,81] 81 #[.slice c b d,.slice j m k]) fun f=>.unS f fun c b d=>.ag [.slice c b d,.int .i64 (wrap .i64 (e+1))]) else .bk [.slice c b d,e])) (fun a=>.popS a fun c b d a=>.pi a fun e a=>.unNil a (.cl 92 #[.slice c b d] fun f=>.unStr f fun g=>.rt (.string g))) (fun a=>.popS a fun c b d a=>.pi a fun b a=>.unNil a (.rt (.string { data:=#[] }))) fun p q=>.fail):=fk [] [⟨0,[(3,.slice),(4,.int .i64)],[],[],[],[]⟩] [] Tryz.f46
theorem w3730{f:ByteArray}:FX X 51 #[.string f] h A (.cl 106 #[.string f,.int .u8 10] fun d=>.unS d fun b a c=>.need (0<=wrap .i64 ((↑a:Int)-1)/\wrap .i64 ((↑a:Int)-1)<(↑a:Int)) (.someA b fun g=>.loadStr (g.add ((wrap .i64 ((↑a:Int)-1)).toNat*1)) fun e=>.sem false (Sem.bind (eqGuard BinOp.eql 9 (Operand.tmp 11) (Operand.const (.string { data:=#[] })) (.string e) (.string { data:=#[] })) fun k=>binOp BinOp.eql 9 (.string e) (.string { data:=#[] })) fun d=>.unB d fun i=>bif i then .sem false (Instr.sliceAt 81 (.slice b a c) none (some (.int .i64 (wrap .i64 ((↑a:Int)-1)))) none) fun j=>.unS j fun b a c=>.rt (.slice b a c) else .rt (.slice b a c))):=fk [] [] [] Tryz.f51
theorem w3731{j:ByteArray}:FX X 52 #[.string j] h A (.loop [.int .i64 0] (fun b=>.pi b fun c b=>.unNil b (.sem false (Builtin.len_ #[9] 3 #[.string j]) fun i=>.ui i fun n=>bif decide (c<n) then .sem false (Instr.index 9 (.string j) (.int .i64 c)) fun i=>.unI .u8 i fun a=>bif a != 58 then .ag [.int .i64 (wrap .i64 (c+1))] else .bk [c] else .bk [c])) (fun b=>.pi b fun c b=>.unNil b (.blk (bif c==0 then .rn [.string { data:=#[] },.slice none 0 0,false] else .sem false (Builtin.len_ #[9] 3 #[.string j]) fun i=>.ui i fun n=>bif c==n then .rn [.string { data:=#[] },.slice none 0 0,false] else .ag [.string { data:=#[] },.slice none 0 0,false]) (fun b=>.popStr b fun f b=>.popS b fun d n e b=>.popB b fun m b=>.unNil b (.sem false (Instr.sliceAt 9 (.string j) (some (.int .i64 (wrap .i64 (c+1)))) none none) fun g=>.unStr g fun f=>.cl 106 #[.string f,.int .u8 59] fun i=>.unS i fun d a e=>.need (0<=wrap .i64 ((↑a:Int)-1)/\wrap .i64 ((↑a:Int)-1)<(↑a:Int)) (.someA d fun o=>.loadStr (o.add ((wrap .i64 ((↑a:Int)-1)).toNat*1)) fun f=>.sem false (Sem.bind (eqGuard BinOp.neq 9 (Operand.tmp 37) (Operand.const (.string { data:=#[] })) (.string f) (.string { data:=#[] })) fun s=>binOp BinOp.neq 9 (.string f) (.string { data:=#[] })) fun i=>.unB i fun m=>bif m then .rt (.tuple #[.string { data:=#[] },.slice none 0 0,false]) else .both (.sem false (Instr.sliceAt 9 (.string j) none (some (.int .i64 c)) none) fun g=>.unStr g fun f=>.nds [.val (.int .i64 (wrap .i64 ((↑a:Int)-1))),.val (.int .i64 (↑a:Int)),.S d a e,.S d a e] (.both (.sem false (Instr.sliceAt 81 (.slice d a e) none (some (.int .i64 (wrap .i64 ((↑a:Int)-1)))) none) fun g=>.unS g fun k c l=>.nds [.val (.int .i64 (↑a:Int)),.S d a e,.val (.int .i64 (↑a:Int)),.S d a e] (.rt (.tuple #[.string f,.slice k c l,true]))) (.nds [.val (.int .i64 (wrap .i64 ((↑a:Int)-1))),.val (.int .i64 (↑a:Int)),.S d a e,.S d a e] (.sem false (Instr.sliceAt 81 (.slice d a e) none (some (.int .i64 (wrap .i64 ((↑a:Int)-1)))) none) fun g=>.unS g fun k c l=>.nds [.val (.int .i64 (↑a:Int)),.S d a e] (.rt (.tuple #[.string f,.slice k c l,true])))))) (.sem false (Instr.sliceAt 81 (.slice d a e) none (some (.int .i64 (wrap .i64 ((↑a:Int)-1)))) none) fun g=>.unS g fun k p l=>.nds [.val (.int .i64 (↑a:Int)),.S d a e,c,.val (.string j)] (.sem false (Instr.sliceAt 9 (.string j) none (some (.int .i64 c)) none) fun g=>.unStr g fun f=>.nds [.val (.int .i64 (↑a:Int)),.S d a e,.val (.int .i64 (↑a:Int)),.S d a e] (.rt (.tuple #[.string f,.slice k p l,true]))))))) (fun b=>.popStr b fun f b=>.popS b fun d c e b=>.popB b fun m b=>.unNil b (.rt (.tuple #[.string f,.slice d c e,m]))) fun q r=>.fail)) (fun b=>.pi b fun c b=>.unNil b (.rt (.tuple #[.string { data:=#[] },.slice none 0 0,false]))) fun q r=>.fail):=fk [] [⟨0,[(5,.int .i64)],[],[],[],[]⟩] [⟨6,[(2,.str),(3,.slice),(4,.bool)],[],[],[],[]⟩] Tryz.f52
theorem w3742:FX X 92 #[.slice B n o] h A (.loop [.string { data:=#[] },.int .i64 0] (fun a=>.popStr a fun b a=>.pi a fun c a=>.unNil a (bif decide (c<(↑n:Int)) then bif decide (c>0) then .sem false (Sem.bind (eqGuard BinOp.add 9 (Operand.tmp 13) (Operand.const (.string { data:=#[44] })) (.string b) (.string { data:=#[44] })) fun g=>binOp BinOp.add 9 (.string b) (.string { data:=#[44] })) fun e=>.unStr e fun b=>.need (0<=c/\c<(↑n:Int)) (.someA B fun f=>.loadStr (f.add (c.toNat*1)) fun d=>.sem false (Sem.bind (eqGuard BinOp.add 9 (Operand.tmp 15) (Operand.tmp 19) (.string b) (.string d)) fun g=>binOp BinOp.add 9 (.string b) (.string d)) fun e=>.unStr e fun b=>.ag [.string b,.int .i64 (wrap .i64 (c+1))]) else .need (0<=c/\c<(↑n:Int)) (.someA B fun f=>.loadStr (f.add (c.toNat*1)) fun d=>.sem false (Sem.bind (eqGuard BinOp.add 9 (Operand.tmp 15) (Operand.tmp 19) (.string b) (.string d)) fun g=>binOp BinOp.add 9 (.string b) (.string d)) fun e=>.unStr e fun b=>.ag [.string b,.int .i64 (wrap .i64 (c+1))]) else .bk [.string b,c])) (fun a=>.popStr a fun b a=>.pi a fun c a=>.unNil a (.rt (.string b))) (fun a=>.popStr a fun b a=>.pi a fun c a=>.unNil a (.rt (.string { data:=#[] }))) fun i j=>.fail):=fk [] [⟨0,[(3,.str),(4,.int .i64)],[],[],[],[]⟩] [] Tryz.f92
theorem w3755{g:ByteArray}:FX X 106 #[.string g,.int .u8 a] h A (.loop [.slice none 0 0,.int .i64 0,.int .i64 0] (fun b=>.popS b fun e c f b=>.pi b fun j b=>.pi b fun i b=>.unNil b (.sem false (Builtin.len_ #[9] 3 #[.string g]) fun d=>.ui d fun m=>bif decide (i<m) then .sem false (Instr.index 9 (.string g) (.int .i64 i)) fun d=>.unI .u8 d fun o=>bif o==a then .sem false (Instr.sliceAt 9 (.string g) (some (.int .i64 j)) (some (.int .i64 i)) none) fun n=>.unStr n fun g=>.sem false (Instr.buildSlice 81 1 #[(0,.string g)]) fun d=>.unS d fun k p l=>.sem false (Builtin.append_ #[81,81] 81 #[.slice e c f,.slice k p l]) fun d=>.unS d fun e c f=>.ag [.slice e c f,.int .i64 (wrap .i64 (i+1)),.int .i64 (wrap .i64 (i+1))] else .ag [.slice e c f,j,.int .i64 (wrap .i64 (i+1))] else .bk [.slice e c f,j,i])) (fun b=>.popS b fun e c f b=>.pi b fun j b=>.pi b fun i b=>.unNil b (.sem false (Instr.sliceAt 9 (.string g) (some (.int .i64 j)) none none) fun n=>.unStr n fun g=>.sem false (Instr.buildSlice 81 1 #[(0,.string g)]) fun d=>.unS d fun k m l=>.sem false (Builtin.append_ #[81,81] 81 #[.slice e c f,.slice k m l]) fun d=>.unS d fun e c f=>.rt (.slice e c f))) (fun b=>.popS b fun e c f b=>.pi b fun c b=>.pi b fun c b=>.unNil b (.rt (.slice none 0 0))) fun q r=>.fail):=fk [] [⟨0,[(5,.slice),(6,.int .i64),(7,.int .i64)],[],[],[],[]⟩] [] Tryz.f106
theorem w3756:FX X 107 #[.slice B n o] h A (.loop [.slice none 0 0,false,.slice none 0 0,.int .i64 0] (fun a=>.popS a fun c e d a=>.popB a fun g a=>.popS a fun j i k a=>.pi a fun b a=>.unNil a (bif decide (b<(↑n:Int)) then .need (0<=b/\b<(↑n:Int)) (.someA B fun l=>.loadStr (l.add (b.toNat*1)) fun w=>.cT 109 #[.string w] fun f a=>.ui f fun t=>.unCons a fun f a=>.unB f fun q=>.unNil a (bif !q then .rn [.slice none 0 0,false,.slice j i k,b] else .sem false (Instr.buildSlice 47 1 #[(0,.int .i64 t)]) fun f=>.unS f fun m u r=>.sem false (Builtin.append_ #[47,47] 47 #[.slice j i k,.slice m u r]) fun f=>.unS f fun p v s=>.ag [.slice c e d,g,.slice p v s,.int .i64 (wrap .i64 (b+1))])) else .bk [.slice c e d,g,.slice j i k,b])) (fun a=>.popS a fun c e d a=>.popB a fun g a=>.popS a fun c e d a=>.pi a fun i a=>.unNil a (.rt (.tuple #[.slice c e d,true]))) (fun a=>.popS a fun c e d a=>.popB a fun g a=>.popS a fun j i k a=>.pi a fun b a=>.unNil a (.rt (.tuple #[.slice c e d,g]))) fun x y=>.fail):=fk [] [⟨0,[(2,.slice),(3,.bool),(4,.slice),(5,.int .i64)],[],[],[],[]⟩] [] Tryz.f107
theorem w3758{e:ByteArray}:FX X 109 #[.string e] h A (.blk (.sem false (Builtin.len_ #[9] 3 #[.string e]) fun c=>.ui c fun b=>bif b==0 then .rn [.int .i64 0,false] else .sem false (Builtin.len_ #[9] 3 #[.string e]) fun c=>.ui c fun b=>bif decide (b>9) then .rn [.int .i64 0,false] else .sem false (Instr.index 9 (.string e) (.int .i64 0)) fun c=>.unI .u8 c fun b=>bif b==48 then .sem false (Builtin.len_ #[9] 3 #[.string e]) fun c=>.ui c fun b=>bif decide (b>1) then .rn [.int .i64 0,false] else .ag [.int .i64 0,false] else .ag [.int .i64 0,false]) (fun a=>.pi a fun b a=>.popB a fun d a=>.unNil a (.loop [b,d,.int .i64 0,.int .i64 0] (fun a=>.pi a fun b a=>.popB a fun d a=>.pi a fun g a=>.pi a fun f a=>.unNil a (.sem false (Builtin.len_ #[9] 3 #[.string e]) fun c=>.ui c fun j=>bif decide (f<j) then .sem false (Instr.index 9 (.string e) (.int .i64 f)) fun c=>.unI .u8 c fun k=>.cB 87 #[.int .i64 (wrap .i64 k),.int .i64 48,.int .i64 57] fun i=>bif !i then .rn [.int .i64 0,false,g,f] else .sem false (Instr.index 9 (.string e) (.int .i64 f)) fun c=>.unI .u8 c fun l=>.ag [b,d,.int .i64 (wrap .i64 (wrap .i64 (10*g)+wrap .i64 (IntKind.wrap .u8 (l-48)))),.int .i64 (wrap .i64 (f+1))] else .bk [b,d,g,f])) (fun a=>.pi a fun b a=>.popB a fun d a=>.pi a fun b a=>.pi a fun g a=>.unNil a (.rt (.tuple #[b,true]))) (fun a=>.pi a fun b a=>.popB a fun d a=>.pi a fun g a=>.pi a fun f a=>.unNil a (.rt (.tuple #[b,d]))) fun m n=>.fail)) (fun a=>.pi a fun b a=>.popB a fun d a=>.unNil a (.rt (.tuple #[b,d]))) fun m n=>.fail):=fk [] [⟨0,[(2,.int .i64),(3,.bool),(4,.int .i64),(5,.int .i64)],[],[],[],[]⟩] [⟨3,[(2,.int .i64),(3,.bool)],[],[],[],[]⟩] Tryz.f109
theorem w3773{i:ByteArray}:FX X 158 #[.string i] h A (.sem false (Sem.bind (eqGuard BinOp.eql 9 (Operand.tmp 6) (Operand.const (.string { data:=#[] })) (.string i) (.string { data:=#[] })) fun m=>binOp BinOp.eql 9 (.string i) (.string { data:=#[] })) fun g=>.unB g fun c=>bif c then .rt (.tuple #[.slice none 0 0,true]) else .cl 106 #[.string i,.int .u8 44] fun g=>.unS g fun d f e=>.loop [.slice none 0 0,false,.int .i64 0] (fun a=>.popS a fun k j e a=>.popB a fun c a=>.pi a fun b a=>.unNil a (bif decide (b<(↑f:Int)) then .need (0<=b/\b<(↑f:Int)) (.someA d fun d=>.loadStr (d.add (b.toNat*1)) fun l=>.sem false (Sem.bind (eqGuard BinOp.eql 9 (Operand.tmp 19) (Operand.const (.string { data:=#[] })) (.string l) (.string { data:=#[] })) fun m=>binOp BinOp.eql 9 (.string l) (.string { data:=#[] })) fun g=>.unB g fun n=>bif n then .rn [.slice none 0 0,false,b] else .ag [.slice k j e,c,.int .i64 (wrap .i64 (b+1))]) else .bk [.slice k j e,c,b])) (fun a=>.popS a fun k j o a=>.popB a fun c a=>.pi a fun b a=>.unNil a (.rt (.tuple #[.slice d f e,true]))) (fun a=>.popS a fun d f e a=>.popB a fun c a=>.pi a fun j a=>.unNil a (.rt (.tuple #[.slice d f e,c]))) fun p q=>.fail):=fk [] [⟨0,[(2,.slice),(3,.bool),(5,.int .i64)],[],[],[],[]⟩] [] Tryz.f158
end
end Go.Y
section
namespace Go.TM.Tp
variable {h:LH}{p:Option Addr}{n c a i:Nat}
theorem U5(a:Addr):a.add 0=a:=by unfold Addr.add;split<;>simp_all
def BsE(h:Cells)(a:Addr)(l:Bs):Prop:=h.cell? (a.add 0)=some (.string (str l))
theorem BsE.grow:Grow BsE:=fun _ _ _ _ a h=>a _ _ h
def BsEnc(l:Bs)(ws:List Value):Prop:=ws=[.string (str l)]
theorem BsEnc.len:∀ x ws,BsEnc x ws->ws.length=1:=by rintro x _ rfl;rfl
theorem BsEnc.e{h':Cells}:∀ a x ws,BsEnc x ws->(∀ (j:Nat) w,ws[j]?=some w->h'.cell? (a.add j)=some w)->BsE h' a x:=by
 rintro a x _ rfl hc;exact hc 0 _ rfl
theorem bs_one(l:Bs):∀ w∈[Value.string (str l)],isOne w=true:=by
 intro w hw;rw[List.mem_singleton]at hw;rw[hw];rfl
def BsS(h:LH)(p:Option Addr)(n c:Nat)(l:List Bs):Prop:=n<=c/\Sl BsE 1 h.get p n l
theorem BsS.le{h h':LH}{p:Option Addr}{n c:Nat}{l:List Bs}(a:h.le h')(s:BsS h p n c l):BsS h' p n c l:=⟨s.1,s.2.le BsE.grow a.1⟩
theorem BsS.at{h:LH}{p:Option Addr}{n c:Nat}{l:List Bs}(s:BsS h p n c l){i:Nat}{x:Bs}(d:l[i]?=some x):∃ a,p=some a/\h.get.cell? (a.add (i*1))=some (.string (str x)):=by
 obtain⟨a,b,e⟩:=s.2.2.2 i x d;unfold BsE at e;rw[U5]at e;exact⟨a,b,e⟩
theorem BsS.init{l:List Bs}(s:BsS h p (n+1) c l):BsS h p n c l.dropLast:=by
 obtain⟨d,s1,s2,b⟩:=s;refine⟨by omega,by simp;omega,by simp;omega,fun i x a=>b i x ?_⟩;rw[List.getElem?_dropLast]at a;split at a
 ·exact a
 ·cases a
theorem BsS.nil:BsS h none 0 0 []:=⟨Nat.le_refl _,rfl,by simp,fun i x a=>by simp at a⟩
theorem growS{h₀:LH}{el:TypeId}{l:List Bs}(g:Growing BsEnc el 1 h₀.get h.get p n c l)(a:l.length<2^60):BsS h p n c l:=by
 have b:=g.count BsEnc.len (by omega);have s:Sl BsE 1 h.get p n l:=g.sl BsEnc.len (by omega) BsEnc.e (by omega);obtain⟨_,o,_⟩:=g.row;exact⟨o.le_cap,s⟩
theorem Zp(c:UInt8):∀ l:Bs,(cut c l).length<=l.length+1
 | []=>by simp[cut]
 | b::l=>by
  have:=Zp c l;have a:=Z4 c l;unfold cut;split
  ·simp;omega
  ·cases e:cut c l with
   | nil=>exact absurd e a
   | cons x y=>rw[e]at this;simp at this ⊢;omega
theorem piece_split{l:Bs}(h:a<=i):l.drop a=(l.take i).drop a++l.drop i:=by
 by_cases b:i<=l.length
 ·have e:l=l.take i++l.drop i:=(List.take_append_drop i l).symm
  conv=>lhs;rw[e]
  rw[List.drop_append_of_le_length (by rw[List.length_take];omega)]
 ·rw[List.take_of_length_le (by omega),List.drop_eq_nil_of_le (by omega:l.length<=i),List.append_nil]
theorem piece_next{l:Bs}{b:UInt8}(h:a<=i)(hb:l[i]?=some b):(l.take (i+1)).drop a=(l.take i).drop a++[b]:=by
 have c:=(List.getElem?_eq_some_iff.1 hb).1;rw[List.take_add_one,hb];simp only[Option.toList_some];rw[List.drop_append_of_le_length (by rw[List.length_take];omega)]
theorem u8_ne{b c:UInt8}(h:((b.toNat:Int)==(c.toNat:Int))=false):b≠c:=by
 rintro rfl;simp at h
theorem u8_eq{b c:UInt8}(h:((b.toNat:Int)==(c.toNat:Int))=true):b=c:=by
 have:(b.toNat:Int)=c.toNat:=by simpa using h
 exact UInt8.toNat_inj.1 (by omega)
end Go.TM.Tp
namespace Go.Y.Txt
open Go.TM.Tp
open Go.Lib (decDigits)
attribute [local irreducible] T.wp CV FWK
theorem undS:Tryz.prog.underlying 9=some .string:=by kernel_rfl
theorem undSs:Tryz.prog.underlying 81=some (.slice 9):=by kernel_rfl
theorem infS:(Tryz.prog.info? 9).map (fun i=>(i.size,i.bytes,i.zero))=some (1,16,some (.string ⟨#[]⟩)):=by kernel_rfl
theorem undIs:Tryz.prog.underlying 47=some (.slice 3):=by kernel_rfl
theorem infI:(Tryz.prog.info? 3).map (fun i=>(i.size,i.bytes,i.zero))=some (1,8,some (.int .i64 0)):=by kernel_rfl
theorem W9{X:XP}{Q:Leaf->LH->Prop}{h₀ h:LH}{K:Option Addr->Nat->Nat->T}{p:Option Addr}{n c:Nat}{l:List Bs}(x:Bs)(t:l.length<=2^29)(g:Growing BsEnc 9 1 h₀.get h.get p n c l)(hle:h₀.le h)
 (k:∀ d c' h',h₀.le h'->h.get.le h'.get\/True->Growing BsEnc 9 1 h₀.get h'.get d (n+1) c' (l++[x])->(K d (n+1) c').wp X Tryz.prog Q h') :
  (T.sem false (Instr.buildSlice 81 1 #[(0,.string (str x))]) fun v=>T.unS v fun a m q=>T.sem false (Builtin.append_ #[81,81] 81 #[.slice p n c,.slice a m q]) fun v=>T.unS v K).wp X Tryz.prog Q h:=by
 have u:=g.count BsEnc.len (by omega);refine Zg [.string (str x)] undSs infS (by decide) (by decide) (by kernel_rfl) ?_;intro r s b _ e;refine gZ ?_;refine Db (h₀:=h₀) (Enc:=BsEnc) x [.string (str x)] rfl rfl undSs infS rfl (by omega) (by omega) (g.le b.1) (LH.le_trans hle b) rfl rfl e (bs_one x) ?_;intro d c' j f o i;refine gZ ?_;exact k d c' j f (.inr trivial) i
theorem c3755{h:LH}(l:Bs)(c:UInt8)(B:l.length<=2^20):Gr Tryz.prog 106 #[.string (str l),.int .u8 (c.toNat:Int)] h fun r h'=>∃ p n k,r=.slice p n k/\BsS h' p n k (cut c l):=by
 refine w3755 Qr ?_;have v:=Zp c l;refine Jl (fun w vs h'=>h.le h'/\∃ (p:Option Addr) (n k f i:Nat) (acc:List Bs),vs=[.slice p n k,.int .i64 f,.int .i64 i]/\f<=i/\i<=l.length/\w=l.length-i/\Growing BsEnc 9 1 h.get h'.get p n k acc/\c∉(l.take i).drop f/\cut c l=acc++cut c (l.drop f))
  (fun vs h'=>h.le h'/\∃ (p:Option Addr) (n k f:Nat) (i:Int) (acc:List Bs),vs=[.slice p n k,.int .i64 f,.int .i64 i]/\f<=l.length/\Growing BsEnc 9 1 h.get h'.get p n k acc/\cut c l=acc++[l.drop f])
  ⟨LH.le_refl _,none,0,0,0,0,[],rfl,Nat.le_refl _,Nat.zero_le _,rfl,Growing.nil,by simp,rfl⟩ ?_ ?_
 ·rintro Y w vs h1 u ⟨d,p,n,k,f,i,acc,rfl,e,A,rfl,g,j,he⟩;have o:acc.length<=l.length+1:=by
   have:=congrArg List.length he;rw[List.length_append]at this;omega
  refine gZ ?_;refine Q8 undS ?_;refine yJ (fun x=>?_) (fun x=>?_)
  ·have a:i<l.length:=by omega
   have hb:=List.getElem?_eq_getElem a;generalize l[i]=b at hb;refine J8 undS hb ?_;refine yI (fun q=>?_) (fun q=>?_)
   ·have:=u8_eq q;subst this;refine Yd undS e A ?_;refine gZ ?_;refine W9 ((l.take i).drop f) (by omega) g d fun t c' h' m _ g'=>?_;refine Qj (u (l.length-(i+1)) _ _ (by omega) ⟨m,t,n+1,c',i+1,i+1,acc++[(l.take i).drop f],?_,Nat.le_refl _,a,rfl,g',?_,?_⟩)
    ·rw[Qm (by omega) (by omega)];rfl
    ·rw[List.drop_eq_nil_of_le (by rw[List.length_take];omega)];simp
    ·rw[he,piece_split e,List.drop_eq_getElem_cons a];have s:l[i]=b:=by
      have:=List.getElem?_eq_getElem a;rw[hb]at this;exact(Option.some.inj this).symm
     rw[s,Z8 j,List.append_assoc];rfl
   ·refine Qj (u (l.length-(i+1)) _ _ (by omega) ⟨d,p,n,k,f,i+1,acc,?_,by omega,a,rfl,g,?_,he⟩)
    ·rw[Qm (by omega) (by omega)];rfl
    ·rw[piece_next e hb];intro hm;rcases List.mem_append.1 hm with hm|hm
     ·exact j hm
     ·exact u8_ne q (List.mem_singleton.1 hm).symm
  ·have y:i=l.length:=by omega
   subst y;rw[List.take_of_length_le (Nat.le_refl _)]at j;exact gH ⟨d,p,n,k,f,_,acc,rfl,e,g,by rw[he,Zw j]⟩
 ·rintro vs h1 ⟨d,p,n,k,f,i,acc,rfl,z,g,he⟩;have o:acc.length<=l.length+1:=by
   have:=congrArg List.length he;rw[List.length_append]at this;omega
  refine gZ ?_;refine Wd undS z ?_;refine gZ ?_;refine W9 (l.drop f) (by omega) g d fun t c' h' m _ g'=>?_;refine Qh ⟨m,t,n+1,c',rfl,?_⟩;rw[he];exact growS g' (by simp;omega)
end Go.Y.Txt
end
section
namespace Go.TM.Tp
theorem Y1{n:Int}(h:0<=n/\n<=255):IntKind.wrap .u8 n=n:=by
 have:=Int.emod_eq_of_lt (a:=n) (b:=256) (by omega) (by omega);simp[IntKind.wrap,IntKind.signed,IntKind.bits];omega
theorem G3{b:UInt8}:digit b=true↔48<=b.toNat/\b.toNat<=57:=by
 unfold digit;rw[Bool.and_eq_true,decide_eq_true_eq,decide_eq_true_eq,UInt8.le_iff_toNat_le,UInt8.le_iff_toNat_le];exact Iff.rfl
theorem val_snoc(l:Bs)(b:UInt8):valL (l++[b])=10*valL l+(b.toNat-48):=by unfold valL;rw[List.foldl_append];rfl
theorem val_lt:∀ {l:Bs},l.all digit=true->valL l<10^l.length:=by
 have key:∀ (l:Bs) (a:Nat),l.all digit=true->l.foldl (fun n b=>10*n+(b.toNat-48)) a<(a+1)*10^l.length:=by
  intro l
  induction l with
  | nil=>intro a _;simp
  | cons b l c =>
   intro a h;simp only[List.all_cons,Bool.and_eq_true]at h;have h1:=c (10*a+(b.toNat-48)) h.2;have h2:=(G3.1 h.1).2;have h3:10*a+(b.toNat-48)+1<=(a+1)*10:=by omega
   rw[List.foldl_cons,List.length_cons,Nat.pow_succ,Nat.mul_comm (10^l.length) 10,<- Nat.mul_assoc];exact Nat.lt_of_lt_of_le h1 (Nat.mul_le_mul_right _ h3)
 intro l h;have:=key l 0 h;rw[Nat.zero_add,Nat.one_mul]at this;exact this
theorem all_take{l:Bs}{i:Nat}{b:UInt8}(hb:l[i]?=some b):(l.take (i+1)).all digit=((l.take i).all digit&&digit b):=by
 rw[List.take_add_one,hb];simp[List.all_append]
theorem all_false{l:Bs}{i:Nat}{b:UInt8}(hb:l[i]?=some b)(a:digit b=false):l.all digit=false:=by
 rw[Bool.eq_false_iff];intro h;have:=List.all_eq_true.1 h b (List.mem_of_getElem? hb);rw[a]at this;cases this
def optV(o:Option Nat):Value:=match o with
 | some n=>.tuple #[.int .i64 (n:Int),.bool true]
 | none=>.tuple #[.int .i64 0,.bool false]
end Go.TM.Tp
namespace Go.Y.Txt
open Go.TM.Tp
open Go.Lib (decDigits)
attribute [local irreducible] T.wp CV FWK
def inI(n a b:Int):Bool:=decide (a<=n)&&decide (n<=b)
theorem k49{h:LH}(n a b:Int):Pu Tryz.prog 87 #[n,a,b] h (.bool (inI n a b)):=by
 refine w49 _ _ _ Qr ?_;unfold n49;refine Qt (fun e=>?_) (fun e=>?_)
 ·exact Qh ⟨by rw[inI,e,Bool.true_and],rfl⟩
 ·exact Qh ⟨by rw[inI,e,Bool.false_and],rfl⟩
theorem inI_digit(b:UInt8):inI (b.toNat:Int) 48 57=digit b:=by
 have h1:=G3 (b:=b);unfold inI;by_cases h:48<=b.toNat/\b.toNat<=57
 ·rw[h1.2 h,decide_eq_true (by omega),decide_eq_true (by omega)];rfl
 ·have a:digit b=false:=by
   rw[Bool.eq_false_iff];exact fun e=>h (h1.1 e)
  rw[a];by_cases h2:(48:Int)<=b.toNat
  ·rw[decide_eq_true h2,decide_eq_false (by omega)];rfl
  ·rw[decide_eq_false h2];rfl
theorem c3758{h:LH}(l:Bs)(z:l.length<=2^20):Pu Tryz.prog 109 #[.string (str l)] h (optV (numL l)):=by
 refine w3758 Qr ?_;have no:∀ {P:Prop},(numL l≠none->P)->¬ P->numL l=none:=fun h1 h2=>by
  cases e:numL l with
  | none=>rfl
  | some n=>exact absurd (h1 (by rw[e];simp)) h2
 have cond:numL l≠none->(1<=l.length/\l.length<=9)/\l.all digit=true/\(l.head?=some 48->l.length=1):=fun c=>by
  unfold numL at c;split at c
  ·assumption
  ·exact absurd rfl c
 refine Ja (fun vs h'=>vs=[.int .i64 0,.bool false]/\h=h'/\(1<=l.length/\l.length<=9)/\(l.head?=some 48->l.length=1)) ?_ ?_
 ·refine Q8 undS ?_;refine yI (fun e=>?_) (fun e=>?_)
  ·have w:l.length=0:=by simpa using e
   refine gI ?_;refine gZ ?_;exact Qh ⟨by rw[no (fun c=>(cond c).1.1) (by omega)];rfl,rfl⟩
  have q:l.length≠0:=by simpa using e
  refine Q8 undS ?_;refine yJ (fun k=>?_) (fun k=>?_)
  ·refine gI ?_;refine gZ ?_;exact Qh ⟨by rw[no (fun c=>(cond c).1.2) (by omega)];rfl,rfl⟩
  obtain⟨b,r,rfl⟩ : ∃ b r,l=b::r:=by
   cases l with
   | nil=>exact absurd rfl q
   | cons b r=>exact⟨b,r,rfl⟩
  refine J8 (i:=0) undS rfl ?_;refine yI (fun d=>?_) (fun d=>?_)
  ·refine Q8 undS ?_;refine gZ ?_;have hb:b=48:=UInt8.toNat_inj.1 (by
    have:(b.toNat:Int)=48:=by simpa using d
    show b.toNat=48;omega)
   refine t_if (fun m=>?_) (fun m=>?_)
   ·refine gI ?_;refine gZ ?_;exact Qh ⟨by rw[no (fun c=>(cond c).2.2 (by rw[hb];rfl)) (by omega)];rfl,rfl⟩
   ·exact Qj ⟨rfl,rfl,by omega,fun _=>by omega⟩
  ·refine Qj ⟨rfl,rfl,by omega,fun o=>?_⟩;simp only[List.head?_cons,Option.some.injEq]at o;subst o;simp at d
 rintro vs _ ⟨rfl,rfl,hlen,f⟩;refine gZ ?_;refine Jl (fun p vs h'=>h=h'/\∃ i:Nat,vs=[.int .i64 0,.bool false,.int .i64 (valL (l.take i):Nat),.int .i64 i]/\i<=l.length/\p=l.length-i/\(l.take i).all digit=true)
  (fun vs h'=>h=h'/\∃ i:Int,vs=[.int .i64 0,.bool false,.int .i64 (valL l:Nat),.int .i64 i]/\l.all digit=true) ⟨rfl,0,by simp[valL],Nat.zero_le _,rfl,by simp⟩ ?_ ?_
 ·rintro Y p vs _ t ⟨rfl,i,rfl,y,rfl,a⟩;refine gZ ?_;refine Q8 undS ?_;refine yJ (fun k=>?_) (fun k=>?_)
  ·have g:i<l.length:=by omega
   have hb:=List.getElem?_eq_getElem g;generalize l[i]=b at hb;have u:=b.toNat_lt;refine J8 undS hb ?_;refine gZ ?_;rw[Qm (by omega) (by omega)];refine t_pu (k49 _ _ _) ?_;rw[inI_digit];refine yI (fun d=>?_) (fun d=>?_)
   ·refine gI ?_;refine gZ ?_;have j:digit b=false:=by simpa using d
    refine Qh ⟨?_,rfl⟩;rw[no (fun c=>(cond c).2.1) (by rw[all_false hb j];simp)];rfl
   ·have j:digit b=true:=by simpa using d
    have v:=G3.1 j;have hv:=val_lt a;have x:10^(l.take i).length<=10^9:=Nat.pow_le_pow_right (by omega) (by rw[List.length_take];omega);refine J8 undS hb ?_;refine gZ ?_;refine Qj (t (l.length-(i+1)) _ _ (by omega) ⟨rfl,i+1,?_,g,rfl,by rw[all_take hb,a,j];rfl⟩);have m:valL (l.take (i+1))=10*valL (l.take i)+(b.toNat-48):=by rw[List.take_add_one,hb];exact val_snoc _ _
    rw[Y1 (by omega),Qm (n:=10*(valL (l.take i):Int)) (by omega) (by omega),Qm (n:=(b.toNat:Int)-48) (by omega) (by omega),Qm (by omega) (by omega),Qm (by omega) (by omega),m];congr 3
    ·congr 1;omega
  ·have s:i=l.length:=by omega
   subst s;rw[List.take_of_length_le (Nat.le_refl _)]at a ⊢;exact gH ⟨rfl,_,rfl,a⟩
 ·rintro vs _ ⟨rfl,i,rfl,a⟩;refine gZ ?_;refine Qh ⟨?_,rfl⟩;unfold numL;rw[if_pos ⟨hlen,a,f⟩];rfl
end Go.Y.Txt
end
section
namespace Go.TM.Tp
open Go.Lib (decDigits)
def text(bs:List Bs):Bs:=bs.flatMap fun b=>b++[10]
def rowS(w:Bs)(fs:List Bs):Bs:=w++58::(fs.flatMap fun f=>f++[59])
theorem Yk(w:Bs)(fs:List Bs):lineS w fs=rowS w fs++[10]:=by simp[lineS,rowS]
def ints(l:List Nat):List Int:=l.map fun n:Nat=>(n:Int)
def di(n:Int):Bs:=decDigits n.toNat
def li(l:List Int):Bs:=listS (l.map Int.toNat)
def Fits(n:Int):Prop:=0<=n/\n<1000000000
theorem Fits.lt{n:Int}(h:Fits n):n.toNat<10^9:=by unfold Fits at h;omega
end Go.TM.Tp
end
section
namespace Go.TM.Tp
theorem Uq:∀ (l:List Bs) (x:Bs),numsL (l++[x])=(numsL l).bind fun m=>(numL x).map fun n=>m++[n]
 | [],x=>by
  rw[List.nil_append,W2,numsL_nil];cases numL x<;>rfl
 | a::l,x=>by
  rw[List.cons_append,W2,W2,Uq l x];cases numL a with
  | none=>rfl
  | some n=>cases numsL l with
   | none=>rfl
   | some m=>cases numL x<;>rfl
theorem De{x:Bs}(b:numL x=none):∀ {l:List Bs},x∈l->numsL l=none
 | [],h=>by cases h
 | a::l,h=>by
  rw[W2];rcases List.mem_cons.1 h with rfl|h
  ·rw[b];rfl
  ·rw[De b h];cases numL a<;>rfl
theorem Z6:∀ {l:List Bs} {m:List Nat},numsL l=some m->m.length=l.length
 | [],m,h=>by cases h;rfl
 | a::l,m,h=>by
  rw[W2]at h;cases h1:numL a with
  | none=>rw[h1]at h;cases h
  | some n =>
   rw[h1]at h;cases h2:numsL l with
   | none=>rw[h2]at h;cases h
   | some k =>
    rw[h2]at h;cases h;simp[Z6 h2]
theorem Yt(c:UInt8):∀ l:Bs,cut c (l++[c])=cut c l++[[]]
 | []=>by simp[cut]
 | b::l=>by
  have a:=Z4 c l;rw[List.cons_append,cut,cut,Yt c l];split
  ·rfl
  ·cases e:cut c l with
   | nil=>exact absurd e a
   | cons x y=>rfl
theorem cut_last{c:UInt8}{r:Bs}(h:(cut c r).getLast?=some []):r=[]\/∃ x,r=x++[c]/\cut c x=(cut c r).dropLast:=by
 rcases List.eq_nil_or_concat r with e|⟨x,b,rfl⟩
 ·exact .inl e
 ·rw[List.concat_eq_append]at h ⊢;by_cases e:b=c
  ·subst e;exact .inr ⟨x,rfl,by rw[Yt,List.dropLast_concat]⟩
  ·exfalso;have key:∀ x:Bs,(cut c (x++[b])).getLast?≠some []:=by
    intro x
    induction x with
    | nil=>rw[List.nil_append,Zw (by simp;exact fun i=>e i.symm)];simp
    | cons a x f =>
     have d:=Z4 c (x++[b]);rw[List.cons_append,cut];split
     ·rw[List.getLast?_cons_of_ne_nil d];exact f
     ·cases g:cut c (x++[b]) with
      | nil=>exact absurd g d
      | cons p ps =>
       rw[g]at f;cases ps with
       | nil=>simp
       | cons q j=>simpa using f
   exact key x h
def fieldsR(l:Bs):Option (Bs×List Bs) :=
 match cut 58 l with
 | w::p::ps =>
  let r:=joinS 58 (p::ps)
  if w=[] then none else if (cut 59 r).getLast?=some [] then some (w,(cut 59 r).dropLast) else none
 | _=>none
end Go.TM.Tp
end
section
namespace Go.TM.Tp
def InS(h:LH)(p:Option Addr)(n c:Nat)(l:List Int):Prop:=n<=c/\Sl IntE 1 h.get p n l
theorem InS.le{h h':LH}{p:Option Addr}{n c:Nat}{l:List Int}(a:h.le h')(s:InS h p n c l):InS h' p n c l:=⟨s.1,s.2.le IntE.grow a.1⟩
theorem InS.at{h:LH}{p:Option Addr}{n c:Nat}{l:List Int}(s:InS h p n c l){i:Nat}{x:Int}(d:l[i]?=some x):∃ a,p=some a/\h.get.cell? (a.add (i*1))=some (.int .i64 x):=by
 obtain⟨a,b,e⟩:=s.2.2.2 i x d;unfold IntE at e;rw[U5]at e;exact⟨a,b,e⟩
theorem InS.nil{h:LH}:InS h none 0 0 []:=⟨Nat.le_refl _,rfl,by simp,fun i x a=>by simp at a⟩
theorem growI{h₀ h:LH}{el:TypeId}{p:Option Addr}{n c:Nat}{l:List Int}(g:Growing IntEnc el 1 h₀.get h.get p n c l)(a:l.length<2^60):InS h p n c l:=by
 have s:Sl IntE 1 h.get p n l:=g.sl IntEnc.len (by omega) IntEnc.e (by omega);obtain⟨_,o,_⟩:=g.row;exact⟨o.le_cap,s⟩
theorem Kk{c:UInt8}:∀ {l x:Bs},x∈cut c l->x.length<=l.length
 | [],x,a=>by simp only[cut,List.mem_singleton]at a;rw[a];exact Nat.le_refl _
 | b::l,x,a=>by
  have d:=Z4 c l;unfold cut at a;split at a
  ·rcases List.mem_cons.1 a with a|a
   ·rw[a];exact Nat.zero_le _
   ·exact Nat.le_succ_of_le (Kk a)
  ·rcases List.mem_cons.1 a with a|a
   ·have h1:(cut c l).headD []∈cut c l:=by
     cases e:cut c l with
     | nil=>exact absurd e d
     | cons u w=>simp
    rw[a];exact Nat.succ_le_succ (Kk h1)
   ·exact Nat.le_succ_of_le (Kk (List.mem_of_mem_tail a))
theorem J3{α:Type}{l:List α}{i:Nat}{x:α}(h:l[i]?=some x):l.take (i+1)=l.take i++[x]:=by
 rw[List.take_add_one,h];rfl
end Go.TM.Tp
namespace Go.Y.Txt
open Go.TM.Tp
open Go.Lib (decDigits)
attribute [local irreducible] T.wp CV FWK
variable {h:LH}{p:Option Addr}{n c:Nat}
theorem D8{X:XP}{Q:Leaf->LH->Prop}{h₀:LH}{K:Option Addr->Nat->Nat->T}{l:List Int}(x:Int)(t:l.length<=2^29)(g:Growing IntEnc 3 1 h₀.get h.get p n c l)(hle:h₀.le h)
 (k:∀ d c' h',h₀.le h'->Growing IntEnc 3 1 h₀.get h'.get d (n+1) c' (l++[x])->(K d (n+1) c').wp X Tryz.prog Q h') :
  (T.sem false (Instr.buildSlice 47 1 #[(0,.int .i64 x)]) fun v=>T.unS v fun a m q=>T.sem false (Builtin.append_ #[47,47] 47 #[.slice p n c,.slice a m q]) fun v=>T.unS v K).wp X Tryz.prog Q h:=by
 have u:=g.count IntEnc.len (by omega);refine Zg [.int .i64 x] undIs infI (by decide) (by decide) (by kernel_rfl) ?_;intro r s b _ e;refine gZ ?_;refine Db (h₀:=h₀) (Enc:=IntEnc) x [.int .i64 x] rfl rfl undIs infI rfl (by omega) (by omega) (g.le b.1) (LH.le_trans hle b) rfl rfl e (by intro w hw;rw[List.mem_singleton]at hw;rw[hw];rfl) ?_;intro d c' j f o i;refine gZ ?_;exact k d c' j f i
def NumsA(o:Option (List Nat))(r:Value)(h:LH):Prop:=match o with
 | some m=>∃ p n c,r=.tuple #[.slice p n c,.bool true]/\InS h p n c (ints m)
 | none=>r=.tuple #[.slice none 0 0,.bool false]
theorem c3756{l:List Bs}(s:BsS h p n c l)(E:l.length<=2^20)(hb:∀ x∈l,x.length<=2^20):Gr Tryz.prog 107 #[.slice p n c] h fun r h'=>NumsA (numsL l) r h':=by
 refine w3756 Qr ?_;have F:=s.2.1;refine Jl (fun u vs h'=>h.le h'/\∃ (q:Option Addr) (m k i:Nat) (acc:List Nat),vs=[.slice none 0 0,.bool false,.slice q m k,.int .i64 i]/\i<=n/\u=n-i/\numsL (l.take i)=some acc/\Growing IntEnc 3 1 h.get h'.get q m k (ints acc))
  (fun vs h'=>h.le h'/\∃ (q:Option Addr) (m k:Nat) (i:Int) (acc:List Nat),vs=[.slice none 0 0,.bool false,.slice q m k,.int .i64 i]/\numsL l=some acc/\Growing IntEnc 3 1 h.get h'.get q m k (ints acc))
  ⟨LH.le_refl _,none,0,0,0,[],rfl,Nat.zero_le _,rfl,rfl,Growing.nil⟩ ?_ ?_
 ·rintro Y u vs h1 z ⟨e,q,m,k,i,acc,rfl,D,rfl,b,g⟩;have j:=Z6 b;rw[List.length_take]at j;refine yJ (fun w=>?_) (fun w=>?_)
  ·have o:=List.getElem?_eq_getElem (show i<l.length by omega);have f:=List.getElem_mem (show i<l.length by omega);generalize l[i]=x at o f;obtain⟨a,C,y⟩:=(s.le e).at o;have A:0<=(i:Int)/\(i:Int)<(n:Int):=by omega
   refine gZ ?_;refine Qv (by rw[Int.toNat_natCast];exact y) ?_;refine t_pu (c3758 x (hb x f)) ?_;have d:=Uq (l.take i) x;rw[<- J3 o,b]at d;cases hv:numL x with
   | none =>
    unfold optV;refine yT ?_;refine gI ?_;refine gZ ?_;refine Qh ⟨e,?_⟩;rw[De hv f];exact rfl
   | some v =>
    unfold optV;rw[hv]at d;refine yF ?_;refine D8 (v:Int) (by unfold ints;rw[List.length_map];omega) g e fun B c' h' t g'=>?_;refine Qj (z (n-(i+1)) _ _ (by omega) ⟨t,B,m+1,c',i+1,acc++[v],?_,by omega,rfl,d,?_⟩)
    ·rw[Qm (by omega) (by omega)];rfl
    ·unfold ints at g' ⊢;rw[List.map_append];exact g'
  ·rw[List.take_of_length_le (by omega)]at b;exact gH ⟨e,q,m,k,_,acc,rfl,b,g⟩
 ·rintro vs h1 ⟨e,q,m,k,i,acc,rfl,b,g⟩;have j:=Z6 b;refine gZ ?_;refine Qh ⟨e,?_⟩;rw[b];exact⟨q,m,k,rfl,growI g (by unfold ints;rw[List.length_map];omega)⟩
end Go.Y.Txt
end
section
namespace Go.TM.Tp
theorem t_neB{X:XP}{P:Program}{Q:Leaf->LH->Prop}{h:LH}{K:Value->T}{t:TypeId}{x y:Operand}{a b:List UInt8}(hu:P.underlying t=some .string)(c:(K (.bool (!decide (a=b)))).wp X P Q h) :
  (T.sem false (Sem.bind (eqGuard .neq t x y (.string (str a)) (.string (str b))) fun _=>binOp .neq t (.string (str a)) (.string (str b))) K).wp X P Q h:=by
 refine Jh (A:=fun w h'=>h'=h.get/\(K w).wp X P Q h) (Qz _ _ ?_) (by rintro w h' ⟨rfl,hw⟩;exact hw);unfold eqGuard;simp only[Bool.not_true,Bool.not_false,Bool.false_eq_true,if_false,if_true,Qg];unfold binOp;show Qe P (Op.stringOp .neq (str a) (str b)) _ _ _;unfold Op.stringOp;rw[Qg];refine⟨rfl,?_⟩;have e:=str_list (str a) (str b);have:(!((str a).toList==(str b).toList)) = !decide (a=b):=by
  congr 1;by_cases h:a=b
  ·rw[decide_eq_true h,e.2 (by rw[h])]
  ·rw[decide_eq_false h,Bool.eq_false_iff];exact fun h'=>h (str_inj (e.1 h'))
 first
  | exact(congrArg (fun b=>(K (.bool b)).wp X P Q h) this).mpr c
  | (simp only[bne];rw[this];exact c)
theorem fieldsR_none{l:Bs}(h:(58:UInt8)∉l):fieldsR l=none:=by unfold fieldsR;rw[Zw h]
theorem fieldsR_some{w r:Bs}(h:(58:UInt8)∉w):fieldsR (w++58::r)=if w=[] then none else if (cut 59 r).getLast?=some [] then some (w,(cut 59 r).dropLast) else none:=by
 have a:=Z4 58 r;unfold fieldsR;rw[Z8 h];cases e:cut 58 r with
 | nil=>exact absurd e a
 | cons p ps =>
  have:=Ui 58 r;rw[e]at this;simp only[this]
theorem last_at{α:Type}{l:List α}{n:Nat}(a:n+1=l.length):l.getLast?=l[n]?:=by
 rw[List.getLast?_eq_getElem?];congr 1;omega
end Go.TM.Tp
namespace Go.Y.Txt
open Go.TM.Tp
open Go.Lib (decDigits)
attribute [local irreducible] T.wp CV FWK
variable {h:LH}
theorem c3773(l:Bs)(B:l.length<=2^19):Gr Tryz.prog 158 #[.string (str l)] h fun r h'=>(l=[]/\r=.tuple #[.slice none 0 0,.bool true])\/(l≠[]/\(([]∈cut 44 l/\r=.tuple #[.slice none 0 0,.bool false])\/([]∉cut 44 l/\∃ p n k,r=.tuple #[.slice p n k,.bool true]/\BsS h' p n k (cut 44 l)))):=by
 refine w3773 Qr ?_;have q:=Zp 44 l;refine Ga (b:=[]) undS ?_;refine yI (fun e=>?_) (fun e=>?_)
 ·exact Qh ⟨LH.le_refl _,.inl ⟨by simpa using e,rfl⟩⟩
 have d:l≠[]:=by simpa using e
 refine t_gr (c3755 (h:=h) l 44 (by omega)) ?_;rintro _ h1 g ⟨p,n,k,rfl,s⟩;have C:=s.2.1;refine gZ ?_;refine Jl (fun t vs h'=>h1=h'/\∃ i:Nat,vs=[.slice none 0 0,.bool false,.int .i64 i]/\i<=n/\t=n-i/\[]∉(cut 44 l).take i) (fun vs h'=>h1=h'/\∃ i:Int,vs=[.slice none 0 0,.bool false,.int .i64 i]/\[]∉cut 44 l)
  ⟨rfl,0,rfl,Nat.zero_le _,rfl,by simp⟩ ?_ ?_
 ·rintro Y t vs _ w ⟨rfl,i,rfl,A,rfl,c⟩;refine yJ (fun u=>?_) (fun u=>?_)
  ·have m:=List.getElem?_eq_getElem (show i<(cut 44 l).length by omega);have f:=List.getElem_mem (show i<(cut 44 l).length by omega);generalize (cut 44 l)[i]=x at m f;obtain⟨a,z,v⟩:=s.at m;have y:0<=(i:Int)/\(i:Int)<(n:Int):=by omega
   refine gZ ?_;refine Qv (by rw[Int.toNat_natCast];exact v) ?_;refine Ga (b:=[]) undS ?_;refine yI (fun j=>?_) (fun j=>?_)
   ·have:x=[]:=by simpa using j
    subst this;refine gI ?_;refine gZ ?_;exact Qh ⟨g,.inr ⟨d,.inl ⟨f,rfl⟩⟩⟩
   ·have o:x≠[]:=by simpa using j
    refine Qj (w (n-(i+1)) _ _ (by omega) ⟨rfl,i+1,?_,by omega,rfl,?_⟩)
    ·rw[Qm (by omega) (by omega)];rfl
    ·rw[J3 m];intro hm;rcases List.mem_append.1 hm with hm|hm
     ·exact c hm
     ·exact o (List.mem_singleton.1 hm).symm
  ·rw[List.take_of_length_le (by omega)]at c;exact gH ⟨rfl,_,rfl,c⟩
 ·rintro vs _ ⟨rfl,i,rfl,c⟩;refine gZ ?_;exact Qh ⟨g,.inr ⟨d,.inr ⟨c,p,n,k,rfl,s⟩⟩⟩
theorem c3730(l:Bs)(w:l.length<=2^19):Gr Tryz.prog 51 #[.string (str l)] h fun r h'=>∃ p n k,r=.slice p n k/\BsS h' p n k (linesL l):=by
 refine w3730 Qr ?_;have q:=Zp 10 l;refine t_gr (c3755 (h:=h) l 10 (by omega)) ?_;rintro _ h1 d ⟨p,n,k,rfl,s⟩;have y:=s.2.1;have f:=Z4 10 l;have o:0<(cut 10 l).length:=List.length_pos_iff.2 f;obtain⟨m,rfl⟩ : ∃ m,n=m+1:=⟨n-1,by omega⟩
 have g:=List.getElem?_eq_getElem (show m<(cut 10 l).length by omega);have c:=last_at (l:=cut 10 l) (n:=m) (by omega);generalize (cut 10 l)[m]=x at g;rw[g]at c;obtain⟨a,v,t⟩:=s.at g;have w1:wrap .i64 (((m+1:Nat):Int)-1)=(m:Int):=by rw[Qm (by omega) (by omega)];omega
 refine gZ ?_;rw[w1];have u:0<=(m:Int)/\(m:Int)<((m+1:Nat):Int):=by omega
 refine gZ ?_;refine Qv (by rw[Int.toNat_natCast];exact t) ?_;refine Ga (b:=[]) undS ?_;refine yI (fun e=>?_) (fun e=>?_)
 ·have:x=[]:=by simpa using e
  subst this;refine J7 undSs infS (i:=m) (by have:=s.1;omega) ?_;refine gZ ?_;refine Qh ⟨d,p,m,k,rfl,?_⟩;unfold linesL;rw[if_pos c];exact s.init
 ·have j:x≠[]:=by simpa using e
  refine Qh ⟨d,p,m+1,k,rfl,?_⟩;unfold linesL;rw[if_neg (by rw[c];simp[j])];exact s
def FieldsA(o:Option (Bs×List Bs))(r:Value)(h:LH):Prop:=match o with
 | some x=>∃ p n k,r=.tuple #[.string (str x.1),.slice p n k,.bool true]/\BsS h p n k x.2
 | none=>r=.tuple #[.string (str []),.slice none 0 0,.bool false]
theorem c3731(l:Bs)(O:l.length<=2^19):Gr Tryz.prog 52 #[.string (str l)] h fun r h'=>FieldsA (fieldsR l) r h':=by
 refine w3731 Qr ?_;refine Jl (fun J vs h'=>h=h'/\∃ i:Nat,vs=[.int .i64 i]/\i<=l.length/\J=l.length-i/\(58:UInt8)∉l.take i) (fun vs h'=>h=h'/\∃ i:Nat,vs=[.int .i64 i]/\i<=l.length/\(58:UInt8)∉l.take i/\(i<l.length->l[i]?=some 58))
  ⟨rfl,0,rfl,Nat.zero_le _,rfl,by simp⟩ ?_ ?_
 ·rintro Y J vs _ L ⟨rfl,i,rfl,B,rfl,d⟩;refine gZ ?_;refine Q8 undS ?_;refine yJ (fun K=>?_) (fun K=>?_)
  ·have v:i<l.length:=by omega
   have hb:=List.getElem?_eq_getElem v;generalize l[i]=b at hb;refine J8 undS hb ?_;refine yI (fun t=>?_) (fun t=>?_)
   ·refine Qj (L (l.length-(i+1)) _ _ (by omega) ⟨rfl,i+1,?_,v,rfl,?_⟩)
    ·rw[Qm (by omega) (by omega)];rfl
    ·rw[J3 hb];intro hm;rcases List.mem_append.1 hm with hm|hm
     ·exact d hm
     ·have:=List.mem_singleton.1 hm;subst this;simp at t
   ·refine gH ⟨rfl,i,rfl,B,d,fun _=>?_⟩;rw[hb];have:(b.toNat:Int)=58:=by simpa using t
    congr 1;exact UInt8.toNat_inj.1 (by show b.toNat=58;omega)
  ·exact gH ⟨rfl,i,rfl,B,d,fun h'=>absurd h' (by omega)⟩
 rintro vs _ ⟨rfl,i,rfl,B,d,hat⟩;refine gZ ?_;by_cases g:i=l.length
 ·have z:fieldsR l=none:=fieldsR_none (by rw[g,List.take_of_length_le (Nat.le_refl _)]at d;exact d);rw[z];refine Ja (fun vs h'=>False) ?_ (fun _ _ j=>j.elim);refine Qt (fun e=>?_) (fun e=>?_)
  ·refine gI ?_;refine gZ ?_;exact Qh ⟨LH.le_refl _,rfl⟩
  ·refine Q8 undS ?_;refine gZ ?_;refine Qt (fun t=>?_) (fun t=>absurd t (by simp[g]));refine gI ?_;refine gZ ?_;exact Qh ⟨LH.le_refl _,rfl⟩
 ·have u:i<l.length:=by omega
  have hb:=hat u;have o:l=l.take i++58::l.drop (i+1):=by
   have h2:l[i]=58:=by
    have:=List.getElem?_eq_getElem u;rw[hb]at this;exact(Option.some.inj this).symm
   rw[<- h2,<- List.drop_eq_getElem_cons u,List.take_append_drop]
  have j:=fieldsR_some (w:=l.take i) (r:=l.drop (i+1)) d;rw[<- o]at j;by_cases y:i=0
  ·have z:fieldsR l=none:=by rw[j,if_pos (by rw[y];rfl)]
   rw[z];refine Ja (fun vs h'=>False) ?_ (fun _ _ j=>j.elim);refine Qt (fun e=>?_) (fun e=>absurd e (by simp[y]));refine gI ?_;refine gZ ?_;exact Qh ⟨LH.le_refl _,rfl⟩
  ·have E:l.take i≠[]:=fun e=>by
    have h2:(l.take i).length=0:=by rw[e];rfl
    rw[List.length_take]at h2;omega
   rw[if_neg E]at j;refine Ja (fun vs h'=>vs=[.string (str []),.slice none 0 0,.bool false]/\h=h') ?_ ?_
   ·refine Qt (fun e=>absurd e (by simp;omega)) (fun _=>?_);refine Q8 undS ?_;refine gZ ?_;refine Qt (fun e=>absurd (show i=l.length by exact_mod_cast (show (i:Int)=(l.length:Int) by simpa using e)) g) (fun _=>?_);exact Qj ⟨rfl,rfl⟩
   rintro vs _ ⟨rfl,rfl⟩;refine gZ ?_;rw[Qm (by omega) (by omega)];refine Wd (a:=i+1) undS (by omega) ?_;refine gZ ?_;have D:(l.drop (i+1)).length<=2^19:=by rw[List.length_drop];omega
   generalize l.drop (i+1)=r at j D;have I:=Zp 59 r;refine t_gr (c3755 (h:=h) r 59 (by omega)) ?_;rintro _ h1 q ⟨p,n,k,rfl,s⟩;have z:=s.2.1;have C:=Z4 59 r;have H:0<(cut 59 r).length:=List.length_pos_iff.2 C;obtain⟨m,rfl⟩ : ∃ m,n=m+1:=⟨n-1,by omega⟩
   have F:=List.getElem?_eq_getElem (show m<(cut 59 r).length by omega);have c:=last_at (l:=cut 59 r) (n:=m) (by omega);generalize (cut 59 r)[m]=x at F;rw[F]at c;obtain⟨a,N,t⟩:=s.at F;have w1:wrap .i64 (((m+1:Nat):Int)-1)=(m:Int):=by rw[Qm (by omega) (by omega)];omega
   refine gZ ?_;rw[w1];have M:0<=(m:Int)/\(m:Int)<((m+1:Nat):Int):=by omega
   refine gZ ?_;refine Qv (by rw[Int.toNat_natCast];exact t) ?_;refine t_neB (b:=[]) undS ?_;refine yI (fun A=>?_) (fun A=>?_)
   ·have G:x≠[]:=by simpa using A
    rw[j,if_neg (by rw[c];simp[G])];exact Qh ⟨q,rfl⟩
   ·have:x=[]:=by simpa using A
    subst this;rw[j,if_pos c];have f:m<=k:=by have:=s.1;omega
    have fin:FieldsA (some (l.take i,(cut 59 r).dropLast)) (.tuple #[.string (str (l.take i)),.slice p m k,.bool true]) h1:=⟨p,m,k,rfl,s.init⟩
    refine Zr ?_ ?_
    ·refine We undS (by omega) (Qs ?_);refine gZ ?_;refine Zr ?_ ?_
     ·refine J7 undSs infS (i:=m) f ?_;refine gZ ?_;exact Qh ⟨q,fin⟩
     ·refine gZ ?_;refine J7 undSs infS (i:=m) f ?_;refine gZ ?_;exact Qh ⟨q,fin⟩
    ·refine J7 undSs infS (i:=m) f ?_;refine gZ ?_;refine We undS (by omega) (Qs ?_);refine gZ ?_;exact Qh ⟨q,fin⟩
end Go.Y.Txt
end
section
namespace Go.TM.Tp
open Go.Lib (decDigits)
def u8V(b:UInt8):Value:=.int .u8 (b.toNat:Int)
variable {P:Program}{a:Addr}{n c:Nat}
theorem lwp_ofBytes{Q:Value->Cells->Prop}{E:Halt->Cells->Prop}{h:Cells}{l:Bs}(hn:l.length=n)(hc:∀ (j:Nat) w,(l.map u8V)[j]?=some w->h.cell? (a.add j)=some w)(hq:Q (.string (str l)) h):Qe P (Conv.bytesToString (.slice (some a) n c)) Q E h:=by
 show Qe P (do
  let mut s:=ByteArray.empty
  for c in <- loadCells a n do
   let .int .u8 n := c | stuck "bytesToString: byte expected"
   s:=s.push (UInt8.ofNat n.toNat)
  pure (.string s)) Q E h
 simp only[lwp_bind];refine Wv (l:=l.map u8V) (by simpa using hn) hc ?_;rw[List.forIn_toArray];have key:∀ (l m:Bs) (Q:ByteArray->Cells->Prop),Q (str (m++l)) h->Qe P (forIn (l.map u8V) (str m) fun c (s:ByteArray)=>match c with
   | .int .u8 n=>(do pure PUnit.unit;pure (ForInStep.yield (s.push (UInt8.ofNat n.toNat))):Sem (ForInStep ByteArray))
   | _ => stuck "bytesToString: byte expected") Q E h := by
  intro l
  induction l with
  | nil=>intro m Q hq;rw[List.append_nil]at hq;exact hq
  | cons b l ih =>
   intro m Q hq;rw[List.map_cons,List.forIn_cons,lwp_bind];have e:(str m).push (UInt8.ofNat ((b.toNat:Int)).toNat)=str (m++[b]):=by
    apply ByteArray.ext;simp[str]
   show Qe P (forIn (l.map u8V) ((str m).push (UInt8.ofNat ((b.toNat:Int)).toNat)) _) Q E h;rw[e];exact ih (m++[b]) Q (by rw[List.append_assoc];exact hq)
 exact key l [] _ hq
theorem Gt{X:XP}{Q:Leaf->LH->Prop}{h:LH}{K:Value->T}{src dst el:TypeId}{l:Bs}(h1:P.underlying src=some (.slice el))(h2:P.underlying dst=some .string)(h3:P.underlying el=some (.int .u8))(d:l.length=n)(hc:∀ (j:Nat) w,(l.map u8V)[j]?=some w->h.get.cell? (a.add j)=some w)
 (b:(K (.string (str l))).wp X P Q h):(T.sem false (convert src dst (.slice (some a) n c)) K).wp X P Q h:=by
 refine Jh (A:=fun w h'=>h'=h.get/\w=.string (str l)) ?_ (by rintro w h' ⟨rfl,rfl⟩;exact b);unfold convert;simp only[lwp_bind,Qd h1,Qd h2,Qd h3];exact lwp_ofBytes d hc ⟨rfl,rfl⟩
theorem Di(h:n<10):decDigits n=[UInt8.ofNat (48+n)]:=by rw[decDigits,dif_pos h]
theorem Dj(h:¬ n<10):decDigits n=decDigits (n / 10)++[UInt8.ofNat (48+n%10)]:=by rw[decDigits,dif_neg h]
theorem dig_v{k:Nat}(h:k<10):IntKind.wrap .u8 (wrap .i64 (48+(k:Int)))=((UInt8.ofNat (48+k)).toNat:Int):=by
 rw[Qm (by omega) (by omega),Y1 (by omega),small_byte h];omega
def lineTo(w:Bs)(fs:List Bs):Bs:=w++58::(fs.flatMap fun f=>f++[59])
theorem lineTo_snoc(w:Bs)(fs:List Bs)(f:Bs):lineTo w (fs++[f])=lineTo w fs++f++[59]:=by simp[lineTo]
theorem lineTo_end(w:Bs)(fs:List Bs):lineTo w fs++[10]=lineS w fs:=by simp[lineTo,lineS]
theorem Uv{c:UInt8}:∀ {l:List Bs} {x:Bs},l≠[]->joinS c (l++[x])=joinS c l++c::x
 | [],_,h=>absurd rfl h
 | [a],x,_=>rfl
 | a::b::l,x,_=>by
  have:=Uv (c:=c) (l:=b::l) (x:=x) (by simp);show a++c::joinS c ((b::l)++[x])=_;rw[this];show _=(a++c::joinS c (b::l))++c::x;simp
end Go.TM.Tp
namespace Go.Y.Txt
open Go.TM.Tp
open Go.Lib (decDigits)
attribute [local irreducible] T.wp CV FWK
theorem undBy:Tryz.prog.underlying 78=some (.slice 5):=by kernel_rfl
theorem undU:Tryz.prog.underlying 5=some (.int .u8):=by kernel_rfl
theorem infU:(Tryz.prog.info? 5).map (fun i=>(i.size,i.bytes,i.zero))=some (1,1,some (.int .u8 0)):=by kernel_rfl
theorem Y3{X:XP}{Q:Leaf->LH->Prop}{h:LH}{K:Value->T}{k:Nat}{x:Int}(g:k<10)(i:x=(k:Int))(f:∀ a n c h',h.le h'->(∀ (j:Nat) w,([UInt8.ofNat (48+k)].map u8V)[j]?=some w->h'.get.cell? (Addr.add ⟨a,0,none⟩ j)=some w)->n=1->(K (.slice (some ⟨a,0,none⟩) n c)).wp X Tryz.prog Q h') :
  (T.sem false (Instr.buildSlice 78 1 #[(0,.int .u8 (IntKind.wrap .u8 (wrap .i64 (48+x))))]) K).wp X Tryz.prog Q h:=by
 subst i;rw[dig_v g];refine Zg [u8V (UInt8.ofNat (48+k))] undBy infU (by decide) (by decide) (by kernel_rfl) ?_;intro r e d _ b;exact f r 1 1 e d b rfl
theorem c3723:∀ (n:Nat) {h:LH},n<1000000000->Gr Tryz.prog 44 #[.int .i64 (n:Int)] h fun r _=>r=.string (str (decDigits n)):=by
 intro n
 induction n using Nat.strongRecOn with
 | ind n t =>
  intro h v;refine w3723 Qr ?_;refine t_if (fun e=>?_) (fun e=>?_)
  ·have g:n<10:=by omega
   refine Y3 g rfl fun a m c h1 b hc hm=>?_;subst hm;refine gZ ?_;refine Gt undBy undS undU (l:=[UInt8.ofNat (48+n)]) rfl hc ?_;refine Qs ?_;refine gZ ?_;rw[Di g];exact Qh ⟨b,rfl⟩
  ·have g:¬ n<10:=by omega
   have i:Int.tdiv (n:Int) 10=((n / 10:Nat):Int):=by rw[Int.tdiv_eq_ediv_of_nonneg (by omega)];rfl
   have o:Int.tmod (n:Int) 10=((n%10:Nat):Int):=by rw[Int.tmod_eq_emod_of_nonneg (by omega)];rfl
   have p:(10:Int)≠0:=by decide
   have u:=dig_len (k:=9) (n:=n / 10) (by omega);rw[i,o,Qm (n:=((n / 10:Nat):Int)) (by omega) (by omega)];have cat:∀ {x y:Operand} {X:XP} {Q:Leaf->LH->Prop} {h:LH} {K:Value->T},(K (.string (str (decDigits n)))).wp X Tryz.prog Q h->(T.sem false (Sem.bind (eqGuard .add 9 x y (.string (str (decDigits (n / 10)))) (.string (str [UInt8.ofNat (48+n%10)]))) fun _=>binOp .add 9 (.string (str (decDigits (n / 10)))) (.string (str [UInt8.ofNat (48+n%10)]))) K).wp X Tryz.prog Q h:=fun s =>
    K9 undS (by simp;omega) (by rw[<- Dj g];exact s)
   have f:∀ {h:LH},Gr Tryz.prog 44 #[.int .i64 ((n / 10:Nat):Int)] h fun r _=>r=.string (str (decDigits (n / 10))):=fun {h}=>t (n / 10) (by omega) (by omega);refine gZ ?_;refine Zr ?_ ?_
   ·refine t_gr f ?_;rintro _ h1 b rfl;refine Qs ?_;refine gZ ?_;refine Y3 (Nat.mod_lt n (by omega)) rfl fun a m c h2 d hc hm=>?_;subst hm;refine gZ ?_;refine Gt undBy undS undU (l:=[UInt8.ofNat (48+n%10)]) rfl hc ?_;refine Qs ?_;refine gZ ?_;refine cat (Qs ?_);refine gZ ?_;exact Qh ⟨LH.le_trans b d,rfl⟩
   ·refine Y3 (Nat.mod_lt n (by omega)) rfl fun a m c h1 b hc hm=>?_;subst hm;refine gZ ?_;refine Zr ?_ ?_
    ·refine t_gr f ?_;rintro _ h2 d rfl;refine Qs ?_;refine gZ ?_;refine Gt undBy undS undU (l:=[UInt8.ofNat (48+n%10)]) rfl (fun j w q=>Qo d.1 (hc j w q)) ?_;refine Qs ?_;refine gZ ?_;refine cat (Qs ?_);refine gZ ?_;exact Qh ⟨LH.le_trans b d,rfl⟩
    ·refine Gt undBy undS undU (l:=[UInt8.ofNat (48+n%10)]) rfl hc ?_;refine Qs ?_;refine gZ ?_;refine t_gr f ?_;rintro _ h2 d rfl;refine Qs ?_;refine gZ ?_;refine cat (Qs ?_);refine gZ ?_;exact Qh ⟨LH.le_trans b d,rfl⟩
end Go.Y.Txt
end
section
namespace Go.TM.Tp
section
variable {P:Program} {h:Cells} {E:Halt->Cells->Prop}
theorem bytes_of(l:Bs):((str l).extract 0 l.length).data.map (fun b=>Value.int .u8 (b.toNat:Int))=(l.map u8V).toArray:=by
 rw[Gb,List.take_length];simp[str,u8V]
theorem lwp_appendStr{Q:Value->Cells->Prop}{ts:Array TypeId}{ty O R el:TypeId}{inf:TypeInfo}{z:Value}{p:Option Addr}{n c:Nat}{vs:List Value}{l:Bs}(h0:ts[0]?=some O)(h1:ts[1]?=some R)(hu:P.underlying O=some (.slice el))(L:P.underlying R=some .string)
 (D:P.info? el=some inf)(X:inf.zero=some z)(J:z.cells.size=1)(w:inf.size=1)(hb:inf.bytes<=1024)(W:n+l.length<=2^30)(own:OwnRow el 1 h p n c vs)
 (I:∀ A c' h',OwnRow el 1 h' A (n+l.length) c' (vs++l.map u8V)->KeptBut p h h'->(A=p\/∃ r,A=some ⟨r,0,none⟩/\h r=none)->Q (.slice A (n+l.length) c') h'):Qe P (Builtin.append_ ts ty #[.slice p n c,.string (str l)]) Q E h:=by
 unfold Builtin.append_;rw[h0,h1];simp only[List.getElem?_toArray,List.getElem?_cons_zero,List.getElem?_cons_succ];simp only[lwp_bind,Qd hu,Q2 D,Qd L,Qg,Bool.false_eq_true,if_false,Bool.not_false,if_true,Builtin.lenOf,J1];obtain⟨f,o⟩:=own;have one:∀ v∈l.map u8V,isOne v=true:=by
  intro v hv;obtain⟨b,_,rfl⟩:=List.mem_map.1 hv;rfl
 by_cases d:n+l.length<=c
 ·simp only[if_pos d,lwp_bind,Builtin.firstCells,Qg,bytes_of];rcases o with⟨rfl,rfl,rfl⟩|⟨r,cs,rfl,hr,s,G,hv⟩
  ·have:l=[]:=List.eq_nil_of_length_eq_zero (by omega);subst this;simp only[Qg];exact I _ _ _ ⟨by simp at f ⊢;exact f,.inl ⟨rfl,rfl,rfl⟩⟩ (fun _ _ L _=>L) (.inl rfl)
  ·simp only[];have hle:n+(l.map u8V).length<=cs.size:=by rw[List.length_map,s];omega
   have B:Addr.add ⟨r,0,none⟩ (n*inf.size)=⟨r,n,none⟩:=by rw[w,Nat.mul_one,Qa,Nat.zero_add]
   rw[B];rw[lwp_bind];refine W4 (l.map u8V) 0 h r n cs el hr (by omega) one ?_;rw[Qg];refine I _ _ _ ⟨by simp[f],.inr ⟨r,_,rfl,Qn _ _ _,?_,d,?_⟩⟩ ?_ (.inl rfl)
   ·rw[size_setMany];exact s
   ·intro j v i;rw[setMany_get (by omega)];by_cases F:j<vs.length
    ·rw[if_neg (by omega)];rw[List.getElem?_append_left F]at i;exact hv j v i
    ·rw[List.getElem?_append_right (by omega)]at i;have V:j-vs.length<(l.map u8V).length:=(List.getElem?_eq_some_iff.1 i).1;rw[if_pos (by omega),<- i];congr 1;omega
   ·intro N x g H;have:N≠r:=fun e=>H _ rfl e.symm;rw[Qp _ _ this];exact g
 ·have u:¬ ((((n+l.length:Nat):Int)>IntKind.i64.max)/\(False\/inf.bytes=0)):=by
   rintro⟨h1,_⟩;have e:IntKind.i64.max=9223372036854775807:=rfl;rw[e]at h1;omega
  have y:=nextslicecap_le (Nat.lt_of_not_le d);have k:¬ (Builtin.nextslicecap (n+l.length) c*inf.bytes>2^48):=by
   have:=Nat.mul_le_mul y hb;have h2:(2*(n+l.length)+400)*1024<=(2*2^30+400)*1024:=Nat.mul_le_mul_right _ (by omega);have:(2*2^30+400)*1024<=2^48:=by decide
   omega
  simp only[if_neg d,lwp_bind,Z1 D,if_neg u,if_neg k,Qg];have C:∀ {K:Nat->Cells->Prop},(∀ a,n+l.length<=a->K a h)->Qe P (choose (Question.appendCap (n+l.length) c el)) K E h:=by
   intro K q;show (if _ then _ else _);split
   ·rename_i U;simp[Question.forced]at U
   ·intro t;exact q _ (Nat.le_add_right _ _)
  refine C fun a B=>?_;have m:∀ {K:Unit->Cells->Prop},K () h->Qe P (askRoom (a*inf.bytes)) K E h:=by
   intro K q;unfold askRoom;split
   ·exact⟨.inl rfl,q⟩
   ·exact q
  refine m ?_;have hold:∀ {K:Array Value->Cells->Prop},(∀ old:Array Value,old.toList=vs->K old h)->Qe P (Builtin.firstCells inf.size n (Value.slice p n c)) K E h:=by
   intro K q;rcases o with⟨rfl,rfl,rfl⟩|⟨r,cs,rfl,hr,s,G,hv⟩
   ·have:vs=[]:=List.eq_nil_of_length_eq_zero (by rw[f]);simp only[Builtin.firstCells,Qg];exact q #[] (by rw[this])
   ·simp only[Builtin.firstCells];refine Wv (l:=vs) (by rw[f,w]) (fun j v i=>?_) (q _ rfl);rw[Qa,Nat.zero_add];simp only[Cells.cell?,hr,Option.isSome_none,Bool.false_eq_true,if_false];exact hv j v i
  refine hold fun old hold=>?_;simp only[Builtin.firstCells,Qg,bytes_of,Ze D X];refine Kf fun r hr=>?_;have M:(Builtin.zeroCells z.cells (a-(n+l.length))).size=a-(n+l.length):=by simp[Builtin.zeroCells,J]
  refine I _ _ _ ⟨by simp[f],.inr ⟨r,_,rfl,Qn _ _ _,?_,B,?_⟩⟩ ?_ (.inr ⟨r,rfl,hr⟩)
  ·have S:old.size=n:=by rw[<- Array.length_toList,hold,f,Nat.mul_one]
   simp only[Array.size_append,S,M,List.size_toArray,List.length_map];omega
  ·intro j v i;have hlen:j<(vs++l.map u8V).length:=(List.getElem?_eq_some_iff.1 i).1;rw[<- Array.getElem?_toList,Array.toList_append,Array.toList_append,hold,List.getElem?_append_left (by simpa using hlen)];exact i
  ·intro N x g _;have:N≠r:=by rintro rfl;rw[hr]at g;cases g
   rw[Qp _ _ this];exact g
end
section
variable {P:Program} {X:XP} {Q:Leaf->LH->Prop}
variable {h:LH}{K:Value->T}{ty:TypeId}{p:Option Addr}{n c:Nat}
theorem t_appStr{ts:Array TypeId}{j k el:TypeId}{e:Nat}{z:Value}{vs:List Value}{l:Bs}(h0:ts[0]?=some j)(h1:ts[1]?=some k)(hu:P.underlying j=some (.slice el))(u:P.underlying k=some .string)
 (s:(P.info? el).map (fun i=>(i.size,i.bytes,i.zero))=some (1,e,some z))(g:z.cells.size=1)(hb:e<=1024)(f:n+l.length<=2^30)(own:OwnRow el 1 h.get p n c vs)
 (t:∀ d c' h',OwnRow el 1 h' d (n+l.length) c' (vs++l.map u8V)->KeptBut p h.get h'->(d=p\/∃ r,d=some ⟨r,0,none⟩/\h.get r=none)->(K (.slice d (n+l.length) c')).wp X P Q { h with get:=h' }):(T.sem false (Builtin.append_ ts ty #[.slice p n c,.string (str l)]) K).wp X P Q h:=by
 obtain⟨i,m,o,q,g4⟩:=Z3 s;subst q;exact Jh (A:=fun v h'=>∃ d c',v=.slice d (n+l.length) c'/\OwnRow el 1 h' d (n+l.length) c' (vs++l.map u8V)/\KeptBut p h.get h'/\(d=p\/∃ r,d=some ⟨r,0,none⟩/\h.get r=none)) (lwp_appendStr h0 h1 hu u m g4 g o hb f own fun d c' h' a b c=>⟨d,c',rfl,a,b,c⟩)
  (by rintro v h' ⟨d,c',rfl,a,b,c⟩;exact t d c' h' a b c)
theorem t_sliceData{ts:Array TypeId}{e:TypeId}(hu:P.underlying ty=some (.pointer e))(g:∀ a,p=some a->∃ m cs el d,h.get a.block=some (m,.cells cs el d))
 (f:∀ q h',h.le h'->(c≠0->q=p)->(K (.pointer q)).wp X P Q h'):(T.sem false (Builtin.unsafeSliceData_ ts ty #[.slice p n c]) K).wp X P Q h:=by
 refine Jh (A:=fun v h'=>∃ q,v=.pointer q/\h.get.le h'/\(c≠0->q=p)) ?_ (by rintro v h' ⟨q,rfl,h1,h2⟩;exact f q { h with get:=h' } ⟨h1,rfl,rfl,rfl⟩ h2);cases p with
 | none=>exact⟨none,rfl,Cells.le_refl _,fun _=>rfl⟩
 | some a =>
  show Qe P (if c≠0 then pure (Value.pointer (some a)) else do
   if (<- viewAt a.block).isSome then pure (Value.pointer (some a)) else pure (Value.pointer (some ⟨<- newObj (.view a (<- elemOf ty)),0,none⟩))) _ _ _
  by_cases hc:c=0
  ·rw[if_neg (fun h=>h hc)];obtain⟨m,cs,el,d,hr⟩:=g a rfl;unfold viewAt;simp only[lwp_bind,Qg];refine(K5 hr).2 ?_;simp only[Option.isSome_some,if_true,Qg,Option.isSome_none,Bool.false_eq_true,if_false];unfold elemOf;simp only[lwp_bind,Qd hu,Qg];intro r b;exact⟨_,rfl,Zc _ b,fun h=>absurd hc h⟩
  ·rw[if_pos hc];exact⟨_,rfl,Cells.le_refl _,fun _=>rfl⟩
end
variable {P:Program}
theorem lies_bytes{u:TypeId}{c n:Nat}(a:P.depth≠0)(h1:P.cellsOf u=1)(b:n<=c):liesAt P P.depth u (c / P.cellsOf u) 0 u n=true:=by
 obtain⟨d,e⟩:=Nat.exists_eq_succ_of_ne_zero a;have:rowAt P (sameLayout P P.depth · u) P.depth u (c / P.cellsOf u) 0 n=true:=by
  rw[e,h1];unfold rowAt;unfold sameLayout;simp[h1,b]
 rw[e]at this ⊢;unfold liesAt;rw[e,this,Bool.true_or]
theorem lwp_loadBytes{P:Program}{E:Halt->Cells->Prop}{h:Cells}:∀ (l:Bs) (a:Addr) (acc:Bs) {Q:ByteArray->Cells->Prop},(∀ (j:Nat) w,(l.map u8V)[j]?=some w->h.cell? (a.add j)=some w)->Q (str (acc++l)) h->Qe P (loadBytes a (str acc) l.length) Q E h
 | [],a,acc,Q,_,c=>by
  rw[List.append_nil]at c;exact c
 | b::l,a,acc,Q,hc,c=>by
  show Qe P (load a >>= _) _ _ _;rw[lwp_bind];refine⟨rfl,_,by have:=hc 0 _ rfl;rwa[addr0']at this,?_⟩;show Qe P (loadBytes (a.add 1) ((str acc).push (((b.toNat:Int).toNat).toUInt8)) l.length) Q E h;have e:(str acc).push (((b.toNat:Int).toNat).toUInt8)=str (acc++[b]):=by
   rw[Int.toNat_natCast];apply ByteArray.ext;simp[str,ByteArray.push]
  rw[e];refine lwp_loadBytes l (a.add 1) (acc++[b]) (fun j w d=>?_) (by rw[List.append_assoc];exact c);rw[Gp,Nat.add_comm];exact hc (j+1) w d
where
 addr0' (a:Addr):a.add 0=a:=by unfold Addr.add;split<;>simp_all
def ButP(q:Option Addr)(h h':LH):Prop:=(∀ r,(∀ a,q=some a->a.block≠r)->h'.get r=h.get r)/\h'.chans=h.chans/\h'.pend=h.pend/\h'.todo=h.todo
theorem ButP.le{q:Option Addr}{h₀ h h':LH}(hle:h₀.le h)(f:NewIn h₀.get q)(b:ButP q h h'):h₀.le h' :=
 ⟨fun r x c=>by rw[b.1 r (fun a d e=>by have:=f a d;rw[e,c]at this;cases this)];exact hle.1 r x c,b.2.1.trans hle.2.1,b.2.2.1.trans hle.2.2.1,b.2.2.2.trans hle.2.2.2⟩
theorem t_unsafeStr{X:XP}{Q:Leaf->LH->Prop}{h:LH}{K:Value->T}{ts:Array TypeId}{ty o el:TypeId}{q:Option Addr}{l:Bs}(h0:ts[0]?=some o)(hu:P.underlying o=some (.pointer el))(p:P.depth≠0)(h1:P.cellsOf el=1)(n:l.length<=2^60)
 (x:l≠[]->∃ (r:Nat) (cs:Array Value) (m:Nat×Nat),q=some ⟨r,0,none⟩/\h.get r=some (true,.cells cs el m)/\l.length<=cs.size/\∀ (j:Nat) w,(l.map u8V)[j]?=some w->cs[j]?=some w)
 (u:∀ h',ButP q h h'->(l=[]->h'=h)->(K (.string (str l))).wp X P Q h'):(T.sem false (Builtin.unsafeString_ ts ty #[.pointer q,.int .i64 (l.length:Int)]) K).wp X P Q h:=by
 refine Jh (A:=fun v h'=>v=.string (str l)/\ButP q h { h with get:=h' }/\(l=[]->h'=h.get)) ?_ (by rintro v h' ⟨rfl,b,e⟩;exact u _ b fun n=>by rw[e n]);have c:IntKind.i64.max=9223372036854775807:=rfl;show Qe P ((pure (l.length:Int):Sem Int) >>= _) _ _ _;rw[lwp_bind,Qg];rw[h0];dsimp only;rw[if_neg (by omega)];rw[if_neg (by rw[c];omega)];by_cases d:l=[]
 ·subst d;cases q with
  | none=>exact⟨rfl,⟨fun _ _=>rfl,rfl,rfl,rfl⟩,fun _=>rfl⟩
  | some a=>exact⟨rfl,⟨fun _ _=>rfl,rfl,rfl,rfl⟩,fun _=>rfl⟩
 ·have hlen:0<l.length:=List.length_pos_iff.2 d;obtain⟨r,cs,m,rfl,hr,f,hc⟩:=x d;simp only[];rw[if_neg (by omega)];unfold elemOf variablesAt;simp only[lwp_bind,Qd hu,Qg,Jv];refine(K5 hr).2 ?_;simp only[Int.toNat_natCast,Qg];rw[if_pos (lies_bytes p h1 f)];rw[lwp_bind];refine lwp_loadBytes l ⟨r,0,none⟩ [] (fun j w t=>?_) ?_
  ·rw[Qa,Nat.zero_add];simp only[Cells.cell?,hr,Option.isSome_none,Bool.false_eq_true,if_false];exact hc j w t
  rw[List.nil_append,lwp_bind];refine⟨by omega,⟨_,hr,fun i s=>s⟩,rfl,⟨fun k g=>?_,rfl,rfl,rfl⟩,fun e=>absurd e d⟩;have:k≠r:=fun e=>g _ rfl e.symm;show Cells.freeze h.get ⟨r,0,none⟩ l.length k=h.get k;unfold Cells.freeze;rw[if_neg this]
end Go.TM.Tp
end
section
namespace Go.Y.Txt
open Go.TM.Tp
attribute [local irreducible] T.wp CV FWK
theorem c3720{h:LH}{r n c:Nat}{p q:Option Addr}(hb:h.get r=some (true,.cells #[.pointer p,.slice q n c] 80 (0,0))):Pu Tryz.prog 40 #[.pointer (some ⟨r,0,none⟩)] h (.int .i64 (n:Int)):=by
 refine w3720 Qr ?_;have a:h.get.cell? ((⟨r,0,none⟩ : Addr).add 1)=some (.slice q n c):=Zx (i:=1) hb rfl;refine gZ ?_;exact Qh ⟨rfl,rfl⟩
end Go.Y.Txt
end
section
namespace Go.TM.Tp
open Go.Lib (decDigits)
theorem lineTo_len{B:Nat}{w:Bs}:∀ {fs:List Bs},(∀ f∈fs,f.length<=B)->(lineTo w fs).length<=w.length+1+fs.length*(B+1):=by
 intro fs h;have key:∀ fs:List Bs,(∀ f∈fs,f.length<=B)->(fs.flatMap fun f=>f++[59]).length<=fs.length*(B+1):=by
  intro fs
  induction fs with
  | nil=>intro _;simp
  | cons f fs b =>
   intro h;have h1:=b fun x a=>h x (List.mem_cons_of_mem _ a);have h2:=h f (by simp);rw[List.flatMap_cons,List.length_append,List.length_append,List.length_cons,List.length_cons,List.length_nil,Nat.succ_mul];omega
 have:=key fs h;unfold lineTo;rw[List.length_append,List.length_cons];omega
theorem G2{B:Nat}{c:UInt8}:∀ {l:List Bs},(∀ f∈l,f.length<=B)->(joinS c l).length<=l.length*(B+1)
 | [],_=>by simp[joinS]
 | [a],h=>by have:=h a (by simp);simp[joinS];omega
 | a::b::l,h=>by
  have h1:=G2 (c:=c) (l:=b::l) fun x d=>h x (List.mem_cons_of_mem _ d);have h2:=h a (by simp);show (a++c::joinS c (b::l)).length<=(b::l).length.succ*(B+1);rw[List.length_append,List.length_cons,Nat.succ_mul];omega
end Go.TM.Tp
namespace Go.Y.Txt
open Go.TM.Tp
open Go.Lib (decDigits)
attribute [local irreducible] T.wp CV FWK
variable {h:LH}{p:Option Addr}{n c:Nat}
theorem c3722{w:Bs}{fs:List Bs}(s:BsS h p n c fs)(hw:w.length<=2^20)(v:fs.length<=2^20)(j:∀ f∈fs,f.length<=2^20):Pu Tryz.prog 43 #[.string (str w),.slice p n c] h (.string (str (lineS w fs))):=by
 refine w3722 Qr ?_;have y:=s.2.1;refine K9 (b:=[58]) undS (by simp;omega) (Qs ?_);have small:∀ i,(lineTo w (fs.take i)).length<=2^43:=fun i=>by
  have h1:=lineTo_len (B:=2^20) (w:=w) (fs:=fs.take i) fun f e=>j f (List.mem_of_mem_take e);have h2:(fs.take i).length<=2^20:=by rw[List.length_take];omega
  have h3:(fs.take i).length*(2^20+1)<=2^20*(2^20+1):=Nat.mul_le_mul_right _ h2;omega
 refine Jl (fun k vs h'=>h=h'/\∃ i:Nat,vs=[.string (str (lineTo w (fs.take i))),.int .i64 i]/\i<=n/\k=n-i) (fun vs h'=>h=h'/\∃ i:Int,vs=[.string (str (lineTo w fs)),.int .i64 i]) ⟨rfl,0,by simp[lineTo],Nat.zero_le _,rfl⟩ ?_ ?_
 ·rintro Y k vs _ o ⟨rfl,i,rfl,u,rfl⟩;refine Jt ?_;refine yJ (fun l=>?_) (fun l=>?_)
  ·have g:=List.getElem?_eq_getElem (show i<fs.length by omega);have d:=List.getElem_mem (show i<fs.length by omega);generalize fs[i]=x at g d;obtain⟨a,t,m⟩:=s.at g;have q:0<=(i:Int)/\(i:Int)<(n:Int):=by omega
   have z:=small i;have r:=j x d;refine gZ ?_;refine Qv (by rw[Int.toNat_natCast];exact m) ?_;refine K9 undS (by omega) (Qs ?_);refine K9 (b:=[59]) undS (by simp;omega) (Qs ?_);refine Qj (o (n-(i+1)) _ _ (by omega) ⟨rfl,i+1,?_,by omega,rfl⟩);rw[Qm (by omega) (by omega),J3 g,lineTo_snoc];rfl
  ·have h2:=small i;rw[List.take_of_length_le (by omega)];exact gH ⟨rfl,_,rfl⟩
 ·rintro vs _ ⟨rfl,i,rfl⟩;have h2:=small fs.length;rw[List.take_of_length_le (Nat.le_refl _)]at h2;refine Jt ?_;refine gZ ?_;refine K9 (b:=[10]) undS (by simp;omega) (Qs ?_);refine Qh ⟨?_,rfl⟩;rw[lineTo_end]
theorem c3742{l:List Bs}(s:BsS h p n c l)(C:l.length<=2^20)(r:∀ f∈l,f.length<=2^20):Pu Tryz.prog 92 #[.slice p n c] h (.string (str (joinS 44 l))):=by
 refine w3742 Qr ?_;have D:=s.2.1;have small:∀ i,(joinS 44 (l.take i)).length<=2^43:=fun i=>by
  have h1:=G2 (B:=2^20) (c:=44) (l:=l.take i) fun f j=>r f (List.mem_of_mem_take j);have h2:(l.take i).length<=2^20:=by rw[List.length_take];omega
  have h3:(l.take i).length*(2^20+1)<=2^20*(2^20+1):=Nat.mul_le_mul_right _ h2;omega
 refine Jl (fun t vs h'=>h=h'/\∃ i:Nat,vs=[.string (str (joinS 44 (l.take i))),.int .i64 i]/\i<=n/\t=n-i) (fun vs h'=>h=h'/\∃ i:Int,vs=[.string (str (joinS 44 l)),.int .i64 i]) ⟨rfl,0,rfl,Nat.zero_le _,rfl⟩ ?_ ?_
 ·rintro Y t vs _ q ⟨rfl,i,rfl,A,rfl⟩;refine Jt ?_;refine yJ (fun u=>?_) (fun u=>?_)
  ·have g:=List.getElem?_eq_getElem (show i<l.length by omega);have d:=List.getElem_mem (show i<l.length by omega);generalize l[i]=x at g d;obtain⟨a,z,o⟩:=s.at g;have w:0<=(i:Int)/\(i:Int)<(n:Int):=by omega
   have E:=small i;have y:=r x d;refine t_if (fun v=>?_) (fun v=>?_)
   ·refine K9 (b:=[44]) undS (by simp;omega) (Qs ?_);refine gZ ?_;refine Qv (by rw[Int.toNat_natCast];exact o) ?_;refine K9 undS (by simp;omega) (Qs ?_);refine Qj (q (n-(i+1)) _ _ (by omega) ⟨rfl,i+1,?_,by omega,rfl⟩);have m:l.take i≠[]:=fun e=>by
     have h2:(l.take i).length=0:=by rw[e];rfl
     rw[List.length_take]at h2;omega
    rw[Qm (by omega) (by omega),J3 g,Uv m,List.append_assoc];rfl
   ·have k:i=0:=by omega
    subst k;refine gZ ?_;refine Qv (by rw[Int.toNat_natCast];exact o) ?_;refine K9 (a:=[]) undS (by simp;omega) (Qs ?_);refine Qj (q (n-(0+1)) _ _ (by omega) ⟨rfl,0+1,?_,by omega,rfl⟩);rw[Qm (by omega) (by omega),J3 g];rfl
  ·have h2:=small i;rw[List.take_of_length_le (by omega)];exact gH ⟨rfl,_,rfl⟩
 ·rintro vs _ ⟨rfl,i,rfl⟩;refine Jt ?_;refine gZ ?_;exact Qh ⟨rfl,rfl⟩
theorem c3725{l:List Int}(s:Sl IntE 1 h.get p n l)(G:l.length<=2^19)(z:∀ v∈l,Fits v):Gr Tryz.prog 46 #[.slice p n c] h fun r _=>r=.string (str (li l)):=by
 refine w3725 Qr ?_;have H:=s.1;refine Jl (fun A vs h'=>h.le h'/\∃ (q:Option Addr) (m k i:Nat),vs=[.slice q m k,.int .i64 i]/\i<=n/\A=n-i/\Growing BsEnc 9 1 h.get h'.get q m k ((l.take i).map di)) (fun vs h'=>h.le h'/\∃ (q:Option Addr) (m k:Nat) (i:Int),vs=[.slice q m k,.int .i64 i]/\Growing BsEnc 9 1 h.get h'.get q m k (l.map di))
  ⟨LH.le_refl _,none,0,0,0,rfl,Nat.zero_le _,rfl,Growing.nil⟩ ?_ ?_
 ·rintro Y A vs h1 C ⟨b,q,m,k,i,rfl,F,rfl,g⟩;refine yJ (fun B=>?_) (fun B=>?_)
  ·have w:=List.getElem?_eq_getElem (show i<l.length by omega);have e:=List.getElem_mem (show i<l.length by omega);generalize l[i]=x at w e;obtain⟨a,D,o⟩:=(s.le IntE.grow b.1).2.2 i x w;unfold IntE at o;rw[U5]at o;have u:0<=(i:Int)/\(i:Int)<(n:Int):=by omega
   have d:=z x e;obtain⟨v,rfl⟩ : ∃ v:Nat,x=v:=⟨x.toNat,by have:=d.1;omega⟩
   refine gT u (gS2 D (gL0 (by rw[Int.toNat_natCast];exact o) ?_));refine t_gr (c3723 v (by have:=d.2;omega)) ?_;rintro _ h2 j rfl;refine Qs ?_;refine W9 (decDigits v) (by rw[List.length_map,List.length_take];omega) (g.le j.1) (LH.le_trans b j) fun E c' h' y _ g'=>?_;refine Qj (C (n-(i+1)) _ _ (by omega) ⟨y,E,m+1,c',i+1,?_,by omega,rfl,?_⟩)
   ·rw[Qm (by omega) (by omega)];rfl
   ·rw[J3 w,List.map_append];exact g'
  ·rw[List.take_of_length_le (by omega)]at g;exact gH ⟨b,q,m,k,_,rfl,g⟩
 ·rintro vs h1 ⟨b,q,m,k,i,rfl,g⟩;refine gZ ?_;refine t_pu (c3742 (growS g (by rw[List.length_map];omega)) (by rw[List.length_map];omega) (fun f t=>?_)) ?_
  ·obtain⟨v,hv,rfl⟩:=List.mem_map.1 t;have h2:=(z v hv).lt;have:=dig_len (k:=9) (n:=v.toNat) (by omega);show (decDigits v.toNat).length<=_;omega
  refine Qs ?_;refine Qh ⟨b,?_⟩;unfold li listS;rw[List.map_map];rfl
end Go.Y.Txt
end
section
namespace Go.TM.Tp
open Go.Lib (decDigits)
theorem Zv{n:Int}(h:Fits n):(di n).length<=9:=by
 have:=h.lt;exact dig_len (k:=8) this
theorem li_len{l:List Int}(h:∀ n∈l,Fits n):(li l).length<=l.length*10:=by
 unfold li listS;have:=G2 (B:=9) (c:=44) (l:=(l.map Int.toNat).map decDigits) fun f a=>by
  rw[List.map_map]at a;obtain⟨n,b,rfl⟩:=List.mem_map.1 a;exact Zv (h n b)
 rw[List.length_map,List.length_map]at this;exact this
theorem text_snoc(bs:List Bs)(b:Bs):text (bs++[b])=text bs++(b++[10]):=by simp[text]
theorem text_len{B:Nat}:∀ {bs:List Bs},(∀ b∈bs,b.length<=B)->(text bs).length<=bs.length*(B+1)
 | [],_=>by simp[text]
 | b::bs,h=>by
  have h1:=text_len (B:=B) (bs:=bs) fun x a=>h x (List.mem_cons_of_mem _ a);have h2:=h b (by simp);have:text (b::bs)=b++10::text bs:=by simp[text]
  rw[this,List.length_append,List.length_cons,List.length_cons,Nat.succ_mul];omega
theorem row_small{w:Bs}{fs:List Bs}(hw:w.length<=7)(a:∀ f∈fs,f.length<=60)(b:fs.length<=4):(rowS w fs).length<=252:=by
 have:=lineTo_len (B:=60) (w:=w) a;have e:rowS w fs=lineTo w fs:=rfl;rw[e];have:fs.length*(60+1)<=4*61:=Nat.mul_le_mul_right _ b;omega
def printV(x:Bs×Int):Value:=.tuple #[.string (str x.1),.int .i64 x.2]
end Go.TM.Tp
namespace Go.Y.Txt
open Go.TM.Tp
open Go.Lib (decDigits)
attribute [local irreducible] T.wp CV FWK
theorem sl_strs{h:LH}{r:Nat}{l:List Bs}(hb:l.length<4611686018427387904)(hc:∀ (j:Nat) w,(l.map fun x=>Value.string (str x))[j]?=some w->h.get.cell? (Addr.add ⟨r,0,none⟩ j)=some w):BsS h (some ⟨r,0,none⟩) l.length l.length l:=by
 refine⟨Nat.le_refl _,rfl,hb,fun i x a=>⟨_,rfl,?_⟩⟩;unfold BsE;rw[U5,Nat.mul_one];exact hc i _ (by rw[List.getElem?_map,a];rfl)
theorem c3723i{h:LH}{n:Int}(a:Fits n):Gr Tryz.prog 44 #[.int .i64 n] h fun r _=>r=.string (str (di n)):=by
 obtain⟨v,rfl⟩ : ∃ v:Nat,n=v:=⟨n.toNat,by have:=a.1;omega⟩
 exact c3723 v (by have:=a.2;omega)
end Go.Y.Txt
end
namespace Go.Y
section
attribute [local irreducible] T.wp CV FWK
theorem c35{h:LH}{p q:Option Addr}{n c m d:Nat}{a b:List Int}(f:Sl IntE 1 h.get p n a)(hb:Sl IntE 1 h.get q m b):Pu Tryz.prog 30 #[.slice p n c,.slice q m d] h (.bool (decide (a=b))):=by
 refine w35 _ _ _ _ _ _ Qr ?_;unfold n35;have D:=f.1;have hm:=hb.1;have w:=f.2.1;have v:=hb.2.1;refine Qt (fun e=>?_) (fun e=>?_)
 ·have:a≠b:=by rintro rfl;simp at e;omega
  exact Qh ⟨by simp[this],rfl⟩
 have z:n=m:=by simp at e;omega
 refine Je (fun k vs h'=>h=h'/\∃ i:Nat,vs=[.bool false,.int .i64 i]/\i<=n/\k=n-i/\a.take i=b.take i) ⟨rfl,0,rfl,Nat.zero_le _,rfl,rfl⟩ ?_;rintro Y k vs _ s ⟨rfl,i,rfl,C,rfl,hc⟩;refine yJ (fun e=>?_) (fun e=>?_)
 ·obtain⟨x,A,j,t,o⟩:=f.at (i:=i) (by omega);obtain⟨y,B,g,u,r⟩:=hb.at (i:=i) (by omega);unfold IntE at o r;refine yI (fun b1=>?_) (fun b1=>?_)
  ·refine gZ ?_;have:a≠b:=by rintro rfl;rw[j]at g;cases g;simp at b1
   exact Qh ⟨by simp[this],rfl⟩
  ·have l:x=y:=by simpa using b1
   refine Qj (s (n-(i+1)) _ _ (by omega) ⟨rfl,i+1,?_,by omega,rfl,?_⟩)
   ·rw[Qm (by omega) (by omega)];rfl
   ·rw[List.take_add_one,List.take_add_one,hc,j,g,l]
 ·refine gZ ?_;rw[List.take_of_length_le (by omega),List.take_of_length_le (by omega)]at hc;exact Qh ⟨by simp[hc],rfl⟩
end
section
attribute [local irreducible] T.wp CV FWK
theorem Yj{X:XP}{Q:Leaf->LH->Prop}{h:LH}{k:Value->T}{t el:TypeId}{n s b:Nat}{parts:Array (Nat×Value)}{z:Value}{cells:Array Value}(hu:Tryz.prog.underlying t=some (.slice el))(d:(Tryz.prog.info? el).map (fun i=>(i.size,i.bytes,i.zero))=some (s,b,some z))(f:n*s<=2^24)(a:n*s≠0)
 (c:Instr.fill (fun i=>some (i*s,s)) ((Array.range (n*s)).map (z.cells[·%z.cells.size]!)) parts.toList=some cells)
 (e:∀ r h',h.le h'->h.get r=none->h'.get r=some (true,.cells cells el (0,0))->(k (.slice (some ⟨r,0,none⟩) n n)).wp X Tryz.prog Q h'):(T.sem false (Instr.buildSlice t n parts) k).wp X Tryz.prog Q h :=
 Dc hu d f a c fun r hr=>e r _ (Q1 hr) hr (Qn _ _ _)
end
section
attribute [local irreducible] T.wp CV FWK
theorem row_stands{h h':Cells}{r:Nat}{cs:Array Value}{el:TypeId}{ws:List Value}(hr:h r=some (true,.cells cs el (0,0)))(hc:∀ (j:Nat) w,ws[j]?=some w->cs[j]?=some w)(b:h' r=h r)(j:Nat)(w:Value)(a:ws[j]?=some w):h'.cell? ((⟨r,0,none⟩ : Addr).add j)=some w:=by
 rw[Qa,Nat.zero_add];unfold Cells.cell?;rw[b,hr];exact hc j w a
section
variable {X:XP} {Q:Leaf->LH->Prop}
theorem U1{α:Type}{Enc:α->List Value->Prop}{h h₁:LH}{K:Value->T}{f el:TypeId}{s d:Nat}{z:Value}{p:Option Addr}{n c:Nat}{l:List α}{x:α}{ws:List Value}{r:Nat}{cs:Array Value}(hu:Tryz.prog.underlying f=some (.slice el))(m:(Tryz.prog.info? el).map (fun i=>(i.size,i.bytes,i.zero))=some (s,d,some z))(k:z.cells.size=s)(hb:d<=1024)(u:n+1<=2^30)
 (g:Growing Enc el s h.get h₁.get p n c l)(hle:h.le h₁)(he:Enc x ws)(t:ws.length=s)(one:∀ v∈ws,isOne v=true)(hr:h₁.get r=some (true,.cells cs el (0,0)))(hc:∀ (j:Nat) w,ws[j]?=some w->cs[j]?=some w)
 (q:∀ e c' h',h.le h'->Growing Enc el s h.get h'.get e (n+1) c' (l++[x])->(K (.slice e (n+1) c')).wp X Tryz.prog Q h'):(T.sem false (Builtin.append_ #[f,f] f #[.slice p n c,.slice (some ⟨r,0,none⟩) 1 1]) K).wp X Tryz.prog Q h₁ :=
 t_grow (h₀:=h) (x:=x) (ws:=ws) rfl rfl hu hu m k hb u g hle he t (fun j v o=>row_stands hr hc rfl j v o) one fun e c' h' a _ b=>q e c' h' a b
end
end
section
set_option maxHeartbeats 0
set_option linter.unusedVariables false
variable {X:XP} {h:LH} {A:Value->LH->Prop}
variable {a b c d e f g i j k l m:Int}{n o p q r s t u v w x y z:Nat}{B C D E F G H I J K L M:Option Addr}
theorem w3141{d:ByteArray}:FX X 53 #[.slice B n o,.string d] h A (.loop [.int .i64 0,.int .i64 0] (fun a=>.pi a fun c a=>.pi a fun b a=>.unNil a (bif decide (b<(↑n:Int)) then .need (0<=b/\b<(↑n:Int)) (.someA B fun f=>.loadStr (f.add (b.toNat*1)) fun e=>.sem false (Sem.bind (eqGuard BinOp.eql 9 (Operand.tmp 15) (Operand.tmp 16) (.string e) (.string d)) fun j=>binOp BinOp.eql 9 (.string e) (.string d)) fun i=>.unB i fun g=>bif g then .rn [b,b] else .ag [c,.int .i64 (wrap .i64 (b+1))]) else .bk [c,b])) (fun a=>.pi a fun c a=>.pi a fun c a=>.unNil a (.rt (.int .i64 (-1)))) (fun a=>.pi a fun c a=>.pi a fun b a=>.unNil a (.rt (.int .i64 c))) fun k l=>.fail):=fk [] [⟨0,[(4,.int .i64),(5,.int .i64)],[],[],[],[]⟩] [] Tryz.f53
end
end Go.Y
section
namespace Go.TM.Tp
def findAt(s:Bs):Nat->List Bs->Int
 | _,[]=>-1
 | i,x::l=>if x=s then (i:Int) else findAt s (i+1) l
theorem lines_small{l x:Bs}(h:x∈linesL l):x.length<=l.length:=by
 refine Kk (c:=10) ?_;unfold linesL at h;split at h
 ·exact(List.dropLast_sublist _).subset h
 ·exact h
theorem lines_few(l:Bs):(linesL l).length<=l.length+1:=by
 have:=Zp 10 l;unfold linesL;split
 ·rw[List.length_dropLast];omega
 ·exact this
theorem fieldsR_small{l w:Bs}{fs:List Bs}(h:fieldsR l=some (w,fs)):fs.length<=l.length+1/\∀ x∈fs,x.length<=l.length:=by
 by_cases hm:(58:UInt8)∈l
 ·obtain⟨a,r,e,b⟩:=List.eq_append_cons_of_mem hm;have hr:r.length<=l.length:=by rw[e,List.length_append,List.length_cons];omega
  have h2:=fieldsR_some (r:=r) b;rw[<- e,h]at h2;have c:=Zp 59 r;split at h2
  ·cases h2
  ·split at h2
   ·cases h2;refine⟨by rw[List.length_dropLast];omega,fun x d=>?_⟩;have:=Kk ((List.dropLast_sublist _).subset d);omega
   ·cases h2
 ·rw[fieldsR_none hm]at h;cases h
end Go.TM.Tp
namespace Go.Y.Txt
open Go.TM.Tp
open Go.Lib (decDigits)
attribute [local irreducible] T.wp CV FWK
theorem c3141{h:LH}{p:Option Addr}{n c:Nat}{l:List Bs}(e:BsS h p n c l)(s:Bs):Pu Tryz.prog 53 #[.slice p n c,.string (str s)] h (.int .i64 (findAt s 0 l)):=by
 refine w3141 Qr ?_;have v:=e.2.1;have f:=e.2.2.1;refine Jl (fun k vs h'=>h=h'/\∃ i:Nat,vs=[.int .i64 0,.int .i64 i]/\i<=n/\k=n-i/\findAt s i (l.drop i)=findAt s 0 l) (fun vs h'=>h=h'/\∃ i:Int,vs=[.int .i64 0,.int .i64 i]/\findAt s 0 l = -1) ⟨rfl,0,rfl,Nat.zero_le _,rfl,rfl⟩ ?_ ?_
 ·rintro Y k vs _ q ⟨rfl,i,rfl,u,rfl,b⟩;refine yJ (fun m=>?_) (fun m=>?_)
  ·have j:=List.getElem?_eq_getElem (show i<l.length by omega);have g:=List.drop_eq_getElem_cons (show i<l.length by omega);generalize l[i]=x at j g;obtain⟨a,t,o⟩:=e.at j;have r:0<=(i:Int)/\(i:Int)<(n:Int):=by omega
   rw[g,findAt]at b;refine gZ ?_;refine Qv (by rw[Int.toNat_natCast];exact o) ?_;refine Ga undS ?_;refine yI (fun d=>?_) (fun d=>?_)
   ·rw[if_pos (by simpa using d)]at b;refine gI ?_;refine gZ ?_;refine Qh ⟨?_,rfl⟩;rw[<- b]
   ·rw[if_neg (by simpa using d)]at b;refine Qj (q (n-(i+1)) _ _ (by omega) ⟨rfl,i+1,?_,by omega,rfl,b⟩);rw[Qm (by omega) (by omega)];rfl
  ·rw[List.drop_eq_nil_of_le (by omega)]at b;exact gH ⟨rfl,_,rfl,b.symm⟩
 ·rintro vs _ ⟨rfl,i,rfl,b⟩;refine gZ ?_;refine Qh ⟨?_,rfl⟩;rw[b]
end Go.Y.Txt
end
section
namespace Go.TM.Tp
theorem Ut{l:Bs}(h:1<=l.length):∃ x,l.getLast?=some x/\l.drop (l.length-1)=[x]/\l.take (l.length-1)=l.dropLast:=by
 have h1:=List.getElem?_eq_getElem (show l.length-1<l.length by omega);refine⟨l[l.length-1],by rw[List.getLast?_eq_getElem?,h1],?_,List.dropLast_eq_take.symm⟩;rw[List.drop_eq_getElem_cons (show l.length-1<l.length by omega),List.drop_eq_nil_of_le (by omega)]
def trimS(c:UInt8)(l:Bs):Bs:=if l.getLast?=some c then l.dropLast else l
end Go.TM.Tp
namespace Go.Y.Txt
open Go.TM.Tp
attribute [local irreducible] T.wp CV FWK
variable {h:LH}
theorem c3772(l:Bs)(c:UInt8)(f:l.length<=2^40):Pu Tryz.prog 157 #[.string (str l),.string (str [c])] h (.bool (decide (l.getLast?=some c))):=by
 refine w3772 Qr ?_;refine Q8 undS ?_;refine gZ ?_;refine Q8 undS ?_;refine yJ (fun e=>?_) (fun e=>?_)
 ·have h1:1<=l.length:=by simp at e;omega
  obtain⟨x,d,b,_⟩:=Ut h1;refine Q8 undS ?_;refine gZ ?_;refine Q8 undS ?_;refine gZ ?_;have w1:wrap .i64 ((l.length:Int)-([c].length:Int))=((l.length-1:Nat):Int):=by
   rw[show ([c].length:Int)=1 from rfl,Qm (by omega) (by omega)];omega
  rw[w1];refine Wd undS (by omega) ?_;refine Qs ?_;refine gZ ?_;rw[b];refine Ga undS ?_;refine gZ ?_;refine Qh ⟨?_,rfl⟩;rw[d];simp
 ·have:l=[]:=by
   cases l with
   | nil=>rfl
   | cons a l=>simp at e;omega
  subst this;exact Qh ⟨by simp,rfl⟩
theorem c3752(l:Bs)(c:UInt8)(d:l.length<=2^40):Pu Tryz.prog 103 #[.string (str l),.string (str [c])] h (.string (str (trimS c l))):=by
 refine w3752 Qr ?_;refine t_pu (c3772 l c d) ?_;refine gZ ?_;unfold trimS;refine Qt (fun e=>?_) (fun e=>?_)
 ·have b:l.getLast?=some c:=by simpa using e
  have h1:1<=l.length:=by cases l with
   | nil=>simp at b
   | cons a l=>simp
  obtain⟨x,i,g,f⟩:=Ut h1;refine Q8 undS ?_;refine gZ ?_;refine Q8 undS ?_;refine gZ ?_;have w1:wrap .i64 ((l.length:Int)-([c].length:Int))=((l.length-1:Nat):Int):=by
   rw[show ([c].length:Int)=1 from rfl,Qm (by omega) (by omega)];omega
  rw[w1];refine We undS (by omega) ?_;refine Qs ?_;refine gZ ?_;rw[f,if_pos b];exact Qh ⟨rfl,rfl⟩
 ·rw[if_neg (by simpa using e)];exact Qh ⟨rfl,rfl⟩
theorem c3728(l:Bs)(c:UInt8)(a:l.length<=2^40):Pu Tryz.prog 49 #[.string (str l),.string (str [c])] h (.string (str (trimS c l))):=by
 refine w3728 Qr ?_;refine t_pu (c3752 l c a) ?_;refine Qs ?_;refine gZ ?_;exact Qh ⟨rfl,rfl⟩
theorem c3769(l:Bs)(c:UInt8)(d:l.length<=2^40):Pu Tryz.prog 153 #[.string (str l),.string (str [c])] h (.tuple #[.string (str (trimS c l)),.bool (decide (l.getLast?=some c))]):=by
 refine w3769 Qr ?_;refine t_pu (c3772 l c d) ?_;refine gZ ?_;unfold trimS;refine Qt (fun e=>?_) (fun e=>?_)
 ·have b:¬ l.getLast?=some c:=by simpa using e
  rw[if_neg b,decide_eq_false b];exact Qh ⟨rfl,rfl⟩
 ·have b:l.getLast?=some c:=by simpa using e
  have h1:1<=l.length:=by cases l with
   | nil=>simp at b
   | cons a l=>simp
  obtain⟨x,i,g,f⟩:=Ut h1;refine Q8 undS ?_;refine gZ ?_;refine Q8 undS ?_;refine gZ ?_;have w1:wrap .i64 ((l.length:Int)-([c].length:Int))=((l.length-1:Nat):Int):=by
   rw[show ([c].length:Int)=1 from rfl,Qm (by omega) (by omega)];omega
  rw[w1];refine We undS (by omega) ?_;refine Qs ?_;refine gZ ?_;rw[f,if_pos b,decide_eq_true b];exact Qh ⟨rfl,rfl⟩
theorem c3745(l:Bs)(c:UInt8)(a:l.length<=2^40):Pu Tryz.prog 96 #[.string (str l),.string (str [c])] h (.tuple #[.string (str (trimS c l)),.bool (decide (l.getLast?=some c))]):=by
 refine w3745 Qr ?_;refine t_pu (c3769 l c a) ?_;refine gZ ?_;refine Qs ?_;refine gZ ?_;exact Qh ⟨rfl,rfl⟩
end Go.Y.Txt
end
section
namespace Go.Y
set_option maxHeartbeats 0
set_option linter.unusedVariables false
variable {X:XP} {h:LH} {A:Value->LH->Prop}
variable {a b c d e f g i j k l m:Int}{n o p q r s t u v w x y z:Nat}{B C D E F G H I J K L M:Option Addr}
theorem w3573{b:ByteArray}:FX X 151 #[.string b,.int .u8 a] h A (.callv false (.func (Fn.func 174) #[] #[]) #[.string b,.int .u8 a] fun d=>.ui d fun c=>.rt (.int .i64 c)):=fk [] [] [] Tryz.f151
theorem w3569{b:ByteArray}:FX X 94 #[.string b,.int .u8 a] h A (.cI 151 #[.string b,.int .u8 a] fun c=>.rt (.int .i64 c)):=fk [] [] [] Tryz.f94
end Go.Y
end
section
namespace Go.Y.Txt
open Go.TM.Tp
attribute [local irreducible] T.wp CV FWK
variable {h:LH}
theorem cv_indexByte{X:XP}(l:Bs)(c:UInt8):CV X Tryz.prog (.func (.func 174) #[] #[]) #[.string (str l),.int .u8 (c.toNat:Int)] h (fun r h'=>r=.int .i64 (firstI c l)/\h'=h):=by
 refine Dl (e:=Extern.BytealgIndexByte.indexByte) (fd:=Tryz.f174) (by kernel_rfl) (by kernel_rfl) (by kernel_rfl) (by kernel_rfl) (by kernel_rfl) ?_;exact lwp_indexByte ⟨rfl,rfl⟩
theorem c3573(l:Bs)(c:UInt8):Pu Tryz.prog 151 #[.string (str l),.int .u8 (c.toNat:Int)] h (.int .i64 (firstI c l)):=by
 refine w3573 Qr ?_;refine J9 (cv_indexByte l c) ?_;rintro _ _ ⟨rfl,rfl⟩;refine gZ ?_;exact Qh ⟨rfl,rfl⟩
theorem c3569(l:Bs)(c:UInt8):Pu Tryz.prog 94 #[.string (str l),.int .u8 (c.toNat:Int)] h (.int .i64 (firstI c l)):=by
 refine w3569 Qr ?_;refine t_pu (c3573 l c) ?_;refine gZ ?_;exact Qh ⟨rfl,rfl⟩
theorem c3776(l:Bs)(c:UInt8):Pu Tryz.prog 175 #[.string (str l),.string (str [c])] h (.int .i64 (firstI c l)):=by
 refine w3776 Qr ?_;refine Q8 undS ?_;refine gZ ?_;refine Ja (fun vs h'=>False) ?_ (fun _ _ b=>b.elim);refine Ja (fun vs h'=>vs=[.bool (decide ([c]=l))]/\h=h') ?_ ?_
 ·refine Qt (fun e=>by simp at e) (fun _=>?_);refine Ga undS ?_;refine gZ ?_;exact Qj ⟨rfl,rfl⟩
 rintro vs _ ⟨rfl,rfl⟩;refine yI (fun e=>?_) (fun e=>?_)
 ·have:[c]=l:=by simpa using e
  subst this;refine gZ ?_;refine Qh ⟨?_,rfl⟩;have:=W5 (c:=c) (a:=[]) (r:=[]) (by simp);simp at this;rw[this]
 ·refine Qt (fun _=>?_) (fun e=>by simp at e);refine J8 (i:=0) undS (c:=c) rfl ?_;refine gZ ?_;refine t_pu (c3573 l c) ?_;refine gZ ?_;exact Qh ⟨rfl,rfl⟩
theorem c3779(l:Bs)(c:UInt8):Pu Tryz.prog 178 #[.string (str l),.string (str [c])] h (.int .i64 (firstI c l)):=by
 refine w3779 Qr ?_;refine t_pu (c3776 l c) ?_;refine gZ ?_;exact Qh ⟨rfl,rfl⟩
end Go.Y.Txt
end
section
namespace Go.TM.Tp
def cutV(c:UInt8)(l:Bs):Bs×Bs×Bool:=match cut c l with
 | a::_::_=>(a,l.drop (a.length+1),true)
 | _=>(l,[],false)
theorem U0{c:UInt8}{l:Bs}(h:c∉l):cutV c l=(l,[],false):=by unfold cutV;rw[Zw h]
theorem Uz{c:UInt8}{a r:Bs}(h:c∉a):cutV c (a++c::r)=(a,r,true):=by
 unfold cutV;rw[Z8 h];have:=Z4 c r;cases e:cut c r with
 | nil=>exact absurd e this
 | cons x y=>simp
end Go.TM.Tp
namespace Go.Y.Txt
open Go.TM.Tp
attribute [local irreducible] T.wp CV FWK
theorem c3768{h:LH}(l:Bs)(c:UInt8)(g:l.length<=2^40):Pu Tryz.prog 152 #[.string (str l),.string (str [c])] h (.tuple #[.string (str (cutV c l).1),.string (str (cutV c l).2.1),.bool (cutV c l).2.2]):=by
 refine w3768 Qr ?_;refine t_pu (c3776 l c) ?_;rcases Z5 c l with h1|⟨a,r,rfl,h1⟩
 ·rw[D0 h1,U0 h1];refine gZ ?_;refine t_if (fun e=>by omega) (fun _=>?_);exact Qh ⟨rfl,rfl⟩
 ·rw[W5 h1,Uz h1];have hlen:(a++c::r).length=a.length+r.length+1:=by simp;omega
  have f:(a++c::r).take a.length=a:=by simp
  have d:(a++c::r).drop (a.length+1)=r:=by simp
  have w1:wrap .i64 ((a.length:Int)+([c].length:Int))=((a.length+1:Nat):Int):=by
   rw[show ([c].length:Int)=1 from rfl,Qm (by omega) (by omega)];rfl
  have hle:a.length<=(a++c::r).length:=by omega
  have b:a.length+1<=(a++c::r).length:=by omega
  refine gZ ?_;refine t_if (fun _=>?_) (fun e=>by omega)
  repeat' (first|(with_reducible first|apply Zr|refine We undS hle ?_|refine Q8 undS ?_|refine Wd undS b ?_|apply Qs|exact Qh ⟨rfl,rfl⟩)|rw[w1]|rw[f]|rw[d]|refine gZ ?_)
theorem c3744{h:LH}(l:Bs)(c:UInt8)(a:l.length<=2^40):Pu Tryz.prog 95 #[.string (str l),.string (str [c])] h (.tuple #[.string (str (cutV c l).1),.string (str (cutV c l).2.1),.bool (cutV c l).2.2]):=by
 refine w3744 Qr ?_;refine t_pu (c3768 l c a) ?_;refine gZ ?_;refine Qs ?_;refine gZ ?_;refine Qs ?_;refine gZ ?_;exact Qh ⟨rfl,rfl⟩
end Go.Y.Txt
end
section
namespace Go.TM.Tp
variable {P:Program}{h h0:LH}{el:TypeId}{n r:Nat}
theorem cut_count(c:UInt8):∀ l:Bs,(cut c l).length=l.countP (fun b=>b==c)+1
 | []=>rfl
 | b::l=>by
  have d:=cut_count c l;have a:=Z4 c l;unfold cut;split
  ·rename_i h;rw[List.length_cons,d,List.countP_cons_of_pos (by simp[h])]
  ·rename_i h;rw[List.countP_cons_of_neg (by simpa using h)];cases e:cut c l with
   | nil=>exact absurd e a
   | cons x y=>rw[e]at d;simpa using d
theorem fold_count(c:UInt8)(l:Bs)(n:Int):l.foldl (fun (n:Int) x=>if (x==c)=true then n+1 else n) n=n+(l.countP (fun b=>b==c):Nat):=by
 induction l generalizing n with
 | nil=>simp
 | cons b l a =>
  rw[List.foldl_cons,a];by_cases h:(b==c)=true
  ·rw[if_pos h,List.countP_cons_of_pos (p:=fun b=>b==c) h];omega
  ·rw[if_neg h,List.countP_cons_of_neg (p:=fun b=>b==c) h]
theorem lwp_count{l:Bs}{c:UInt8}{Q:Value->Cells->Prop}{E:Halt->Cells->Prop}{h:Cells}(a:Q (.int .i64 (l.countP (fun b=>b==c):Nat)) h):Qe P (Extern.BytealgCount.count #[.string (str l),.int .u8 (c.toNat:Int)]) Q E h:=by
 show Qe P (do
  let b <- Extern.Bytes.bytesOf (.string (str l));let c <- Extern.Bytes.asByte (.int .u8 (c.toNat:Int))
  pure (goInt (b.foldl (fun (n:Int) x=>if x==c then n+1 else n) 0))) Q E h
 simp only[Extern.Bytes.bytesOf,Extern.Bytes.asByte,lwp_bind,Qg];have hc:((c.toNat:Int)).toNat.toUInt8=c:=by simp
 rw[hc,Go.Lib.foldl_data,str_data,fold_count,Int.zero_add];exact a
structure StrsR(el:TypeId)(n:Nat)(h0 h:LH)(r:Nat)(acc:List Bs):Prop where
 cells:∃ cs,h.get r=some (true,.cells cs el (0,0))/\cs.size=n/\∀ (j:Nat) x,acc[j]?=some x->cs[j]?=some (.string (str x))
 new:h0.get r=none
 le:h0.le h
theorem t_stS{X:XP}{Q:Leaf->LH->Prop}{i:Nat}{acc:List Bs}{a:Addr}{x:Bs}{k:T}(s:StrsR el n h0 h r acc)(o:acc.length=i)(p:i<n)(l:a=⟨r,i,none⟩)(m:∀ h1,StrsR el n h0 h1 r (acc++[x])->k.wp X P Q h1):(T.store a (.string (str x)) k).wp X P Q h:=by
 obtain⟨cs,h1,h2,h3⟩:=s.cells;rw[l];refine K0 h1 rfl (Array.getElem?_eq_getElem (by omega:i<cs.size)) fun d b hb=>?_;refine m d ⟨⟨_,hb,by simpa using h2,fun j y c=>?_⟩,s.new,⟨fun q x g=>?_,b.2.1.trans s.le.2.1,b.2.2.1.trans s.le.2.2.1,b.2.2.2.trans s.le.2.2.2⟩⟩
 ·by_cases e:j=i
  ·subst e;rw[List.getElem?_append_right (by omega),o,Nat.sub_self]at c;simp at c;subst c;rw[Array.getElem?_setIfInBounds_self_of_lt (by omega)]
  ·rw[Array.getElem?_setIfInBounds_ne (Ne.symm e)];have f:j<(acc++[x]).length:=(List.getElem?_eq_some_iff.1 c).1;rw[List.length_append,List.length_singleton]at f;rw[List.getElem?_append_left (by omega)]at c;exact h3 j y c
 ·rw[b.1 q (fun e=>by rw[e,s.new]at g;cases g)];exact s.le.1 q x g
theorem StrsR.sl{c:Nat}{acc:List Bs}(s:StrsR el n h0 h r acc)(hb:acc.length<4611686018427387904)(hc:acc.length<=c):BsS h (some ⟨r,0,none⟩) acc.length c acc:=by
 obtain⟨cs,h1,h2,h3⟩:=s.cells;refine⟨hc,rfl,hb,fun i x a=>⟨_,rfl,?_⟩⟩;unfold BsE;rw[Qa,Qa,Nat.zero_add,Nat.mul_one,Nat.add_zero];exact Zx h1 (h3 i x a)
end Go.TM.Tp
end
section
namespace Go.TM.Tp
def isNilI:Value->Bool
 | .nilIface=>true
 | _=>false
def IsI(v:Value):Prop:=v=.nilIface\/∃ t w,v=.iface t w
def isConst:Operand->Bool
 | .const _=>true
 | _=>false
section
variable {P:Program} {E:Halt->Cells->Prop} {h:Cells}
theorem Hg{Q:Bool->Cells->Prop}{t:TypeId}{ms:Array (String×TypeId)}{v:Value}(hu:P.underlying t=some (.interface ms))(hv:IsI v)(b:Q (isNilI v) h):Qe P (Op.equal t v .nilIface) Q E h:=by
 unfold Op.equal;have a:Op.maxDepth=9999+1:=rfl;rw[a,Op.equalIn,lwp_bind,Qd hu];rcases hv with rfl|⟨u,w,rfl⟩
 ·exact b
 ·exact b
end
section
variable {X:XP} {P:Program} {Q:Leaf->LH->Prop}
variable {h:LH}{K:Value->T}{t:TypeId}{x y:Operand}{v:Value}
theorem t_eqNilI{ms:Array (String×TypeId)}(hu:P.underlying t=some (.interface ms))(hv:IsI v)(b:isConst y=true)(a:(K (.bool (isNilI v))).wp X P Q h) :
  (T.sem false (Sem.bind (eqGuard .eql t x y v .nilIface) fun _=>binOp .eql t v .nilIface) K).wp X P Q h:=by
 refine Jh (A:=fun w h'=>w=.bool (isNilI v)/\h'=h.get) (Qz _ _ ?_) (by rintro w h' ⟨rfl,rfl⟩;exact a);cases y with
 | const c =>
  rcases hv with rfl|⟨u,w,rfl⟩
  ·unfold eqGuard;simp only[Bool.not_true,Bool.false_eq_true,if_false,Bool.or_true,if_true,Qg];unfold binOp;simp only[lwp_bind];exact Hg hu (.inl rfl) ⟨rfl,rfl⟩
  ·unfold eqGuard;simp only[Bool.not_true,Bool.false_eq_true,if_false,Qg];unfold binOp;simp only[lwp_bind];exact Hg hu (.inr ⟨_,_,rfl⟩) ⟨rfl,rfl⟩
 | _=>cases b
theorem t_neNilI{ms:Array (String×TypeId)}(hu:P.underlying t=some (.interface ms))(hv:IsI v)(b:isConst y=true)(a:(K (.bool (!isNilI v))).wp X P Q h) :
  (T.sem false (Sem.bind (eqGuard .neq t x y v .nilIface) fun _=>binOp .neq t v .nilIface) K).wp X P Q h:=by
 refine Jh (A:=fun w h'=>w=.bool (!isNilI v)/\h'=h.get) (Qz _ _ ?_) (by rintro w h' ⟨rfl,rfl⟩;exact a);cases y with
 | const c =>
  rcases hv with rfl|⟨u,w,rfl⟩
  ·unfold eqGuard;simp only[Bool.not_true,Bool.not_false,Bool.false_eq_true,if_false,Bool.or_true,if_true,Qg];unfold binOp;simp only[lwp_bind];exact Hg hu (.inl rfl) ⟨rfl,rfl⟩
  ·unfold eqGuard;simp only[Bool.not_true,Bool.not_false,Bool.false_eq_true,if_false,Qg];unfold binOp;simp only[lwp_bind];exact Hg hu (.inr ⟨_,_,rfl⟩) ⟨rfl,rfl⟩
 | _=>cases b
end
end Go.TM.Tp
end
section
namespace Go.TM.Tp
variable {el:TypeId}{r n:Nat}{h h':LH}
theorem OwnRow.but{k:Nat}{p:Option Addr}{c:Nat}{vs:List Value}(j:∀ a,p=some a->a.block≠r)(b:But r h h')(o:OwnRow el k h.get p n c vs):OwnRow el k h'.get p n c vs:=by
 obtain⟨h1,h2|⟨q,cs,d,e,f,g,i⟩⟩:=o
 ·exact⟨h1,.inl h2⟩
 ·refine⟨h1,.inr ⟨q,cs,d,?_,f,g,i⟩⟩;rw[b.1 q (j _ d)];exact e
structure Bld(B U:TypeId)(h0 h:LH)(r:Nat)(l:Bs):Prop where
 cells:∃ p q c,h.get r=some (true,.cells #[.pointer p,.slice q l.length c] B (0,0))/\(p=none\/p=some ⟨r,0,none⟩)/\OwnRow U 1 h.get q l.length c (l.map u8V)/\NewIn h0.get q/\∀ a,q=some a->a.block≠r
 new:h0.get r=none
 le:h0.le h
theorem Bld.grow{B U:TypeId}{h0:LH}{l:Bs}(b:Bld B U h0 h r l)(a:h.le h'):Bld B U h0 h' r l:=by
 obtain⟨p,q,c,d,e,f,g,i⟩:=b.cells;exact⟨⟨p,q,c,a.1 _ _ d,e,f.le a.1,g,i⟩,b.new,LH.le_trans b.le a⟩
section
variable {P:Program} {X:XP} {Q:Leaf->LH->Prop}
variable {h:LH}{K:Value->T}{t el ty:TypeId}{p:Option Addr}{c:Nat}
theorem t_capS{n:Nat}(hu:P.underlying t=some (.slice el))(a:(K (.int .i64 (c:Int))).wp X P Q h):(T.sem false (Builtin.cap_ #[t] ty #[.slice p n c]) K).wp X P Q h:=by
 refine Jh (A:=fun v h'=>v=.int .i64 (c:Int)/\h'=h.get) ?_ (by rintro v h' ⟨rfl,rfl⟩;exact a);unfold Builtin.cap_;simp only[List.getElem?_toArray,List.getElem?_cons_zero,lwp_bind,Qd hu,Qg]
 first|exact⟨rfl,rfl⟩|exact⟨rfl,trivial⟩
theorem t_copyNone{t2:TypeId}{inf:TypeInfo}(hu:P.underlying t=some (.slice el))(b:P.info? el=some inf)(d:(K (.int .i64 0)).wp X P Q h):(T.sem false (Builtin.copy_ #[t,t2] ty #[.slice p 0 c,.slice none 0 0]) K).wp X P Q h:=by
 refine Jh (A:=fun v h'=>v=.int .i64 0/\h'=h.get) ?_ (by rintro v h' ⟨rfl,rfl⟩;exact d);unfold Builtin.copy_;simp only[List.getElem?_toArray,List.getElem?_cons_zero,List.getElem?_cons_succ,lwp_bind,Qd hu,Qg,Builtin.lenOf,Q2 b,Builtin.firstCells];cases p with
 | none=>exact⟨rfl,rfl⟩
 | some a=>exact⟨rfl,rfl⟩
end
theorem digits_size:∀ (n t:Nat) (acc:Array Value),(Extern.BytealgMakeNoZero.digits n t acc).size=acc.size+n
 | 0,_,_=>rfl
 | n+1,t,acc=>by
  unfold Extern.BytealgMakeNoZero.digits;rw[digits_size n,Array.size_push];omega
theorem lwp_makeNoZero{P:Program}{E:Halt->Cells->Prop}{h:Cells}{Q:Value->Cells->Prop}{ps:Array TypeId}{t:TypeId}(hu:P.underlying t=some (.slice el))(hn:n<=2^40)
 (hq:∀ r cs,h r=none->n<=cs.size->Q (.slice (some ⟨r,0,none⟩) n cs.size) (h.upd r (true,.cells cs el (0,0)))):Qe P (Extern.BytealgMakeNoZero.makeNoZero ps #[t] #[.int .i64 (n:Int)]) Q E h:=by
 show Qe P (underlying t >>= _) _ _ _;rw[lwp_bind,Qd hu];dsimp only;have hnb:¬ ((decide ((n:Int)<0)||decide ((n:Int)>2^48))=true):=by simp;omega
 rw[if_neg hnb];simp only[Qg,lwp_bind,Int.toNat_natCast];have hch:∀ {K:Nat->Cells->Prop},(∀ a,n<=a->K a h)->Qe P (choose (Question.appendCap n 0 el)) K E h:=by
  intro K hK;show (if _ then _ else _);split
  ·rename_i hf;simp[Question.forced]at hf
  ·intro t;exact hK _ (Nat.le_add_right _ _)
 refine hch fun a ha=>?_;have hroom':∀ {K:Unit->Cells->Prop},K () h->Qe P (askRoom a) K E h:=by
  intro K hK;unfold askRoom;split
  ·exact⟨.inl rfl,hK⟩
  ·exact hK
 refine hroom' ?_
 have hch2 : ∀ {K : Nat -> Cells -> Prop}, (∀ a, K a h) -> Qe P (choose (Question.extern "internal/bytealg.MakeNoZero.bytes" 0)) K E h := by
  intro K hK;show (if _ then _ else _);split
  ·exact hK _
  ·intro t;exact hK _
 refine hch2 fun b=>?_;refine Kf fun r hr=>?_;have hs:(Extern.BytealgMakeNoZero.digits a b #[]).size=a:=by rw[digits_size];simp
 have:=hq r (Extern.BytealgMakeNoZero.digits a b #[]) hr (by rw[hs];exact ha);rw[hs]at this;exact this
end Go.TM.Tp
namespace Go.Y.Txt
open Go.TM.Tp
attribute [local irreducible] T.wp CV FWK
abbrev BldR(h0 h:LH)(r:Nat)(l:Bs):Prop:=Bld 80 5 h0 h r l
variable {h0 h:LH}{r n:Nat}
theorem undBp:Tryz.prog.underlying 162=some (.pointer 5):=by kernel_rfl
theorem depth0:Tryz.prog.depth≠0:=of_decide_eq_true (by kernel_rfl)
theorem cellsU:Tryz.prog.cellsOf 5=1:=by kernel_rfl
theorem c3715{l s:Bs}(b:BldR h0 h r l)(A:l.length+s.length<=2^30) :
  FW X0 Tryz.prog 35 #[.pointer (some ⟨r,0,none⟩),.string (str s)] h fun v h'=>v=.tuple #[.int .i64 (s.length:Int),.nilIface]/\BldR h0 h' r (l++s):=by
 obtain⟨p,q,c,w,x,y,z,m⟩:=b.cells;refine w3715 Qr ?_;refine Jp (c3739 w x) ?_;rintro _ h1 ⟨rfl,b1,d⟩;have j:h0.le h1:=H7 b.le (b1.ov b.new);have D:h1.get.cell? ((⟨r,0,none⟩ : Addr).add 1)=some (.slice q l.length c):=Zx (i:=1) d rfl;refine gZ ?_;refine t_appStr rfl rfl undBy undS infU rfl (by omega) A (OwnRow.but m b1 y) fun u c' h' own kept f=>?_;have n:h' r=some (true,.cells #[.pointer (some ⟨r,0,none⟩),.slice q l.length c] 80 (0,0)):=kept r _ d m;have e:∀ a,u=some a->a.block≠r:=by
  intro a t;rcases f with rfl|⟨r2,rfl,g⟩
  ·exact m a t
  ·cases t;rintro rfl;rw[d]at g;cases g
 obtain⟨B,C⟩:=Hl j.1 z kept f;refine gZ ?_;refine K0 (h:={ h1 with get:=h' }) (i:=1) n rfl (by rfl) fun h2 o k=>?_;refine Q8 undS ?_;refine gZ ?_;refine Qh ⟨rfl,⟨some ⟨r,0,none⟩,u,c',?_,.inr rfl,?_,C,e⟩,b.new,?_⟩
 ·rw[k,List.length_append];rfl
 ·rw[List.length_append,List.map_append];exact OwnRow.but e o own
 ·have:h0.le { h1 with get:=h' }:=⟨B,j.2⟩
  exact H7 this (o.ov b.new)
theorem c3721{l:Bs}(b:BldR h0 h r l)(C:l.length<=2^30) :
  FW X0 Tryz.prog 41 #[.pointer (some ⟨r,0,none⟩)] h fun v h'=>v=.string (str l)/\h0.le h':=by
 obtain⟨p,q,c,s,z,m,t,u⟩:=b.cells;refine w3721 Qr ?_;have w:h.get.cell? ((⟨r,0,none⟩ : Addr).add 1)=some (.slice q l.length c):=Zx (i:=1) s rfl;refine gZ ?_;refine t_sliceData undBp (fun a j=>?_) fun D h' hle o=>?_
 ·rcases m.2 with⟨h1,_⟩|⟨r2,cs,h1,h2,_⟩
  ·rw[h1]at j;cases j
  ·rw[h1]at j;cases j;exact⟨_,_,_,_,h2⟩
 have d:=Qo hle.1 w;have g:=m.le hle.1;refine gZ ?_;have x:=m.le_cap;refine t_unsafeStr rfl undBp depth0 cellsU (by omega) (fun n=>?_) fun h2 k y=>?_
 ·have hlen:=List.length_pos_iff.2 n;rcases g.2 with⟨_,h1,_⟩|⟨r2,cs,h1,h2,h3,B,h5⟩
  ·omega
  ·have e:c≠0:=by omega
   exact⟨r2,cs,_,(o e).trans h1,h2,by omega,h5⟩
 have f:h0.le h2/\h2.get r=h'.get r:=by
  by_cases e:c=0
  ·rw[y (List.eq_nil_of_length_eq_zero (by omega))];exact⟨LH.le_trans b.le hle,rfl⟩
  ·rw[o e]at k;exact⟨k.le (LH.le_trans b.le hle) t,k.1 r u⟩
 have A:h2.get.cell? ((⟨r,0,none⟩ : Addr).add 1)=some (.slice q l.length c):=by
  rw[Qa]at d ⊢;unfold Cells.cell? at d ⊢;rw[show h2.get (Addr.block ⟨r,0+1,none⟩)=h'.get (Addr.block ⟨r,0+1,none⟩) from f.2];exact d
 refine gZ ?_;refine Qs ?_;refine gZ ?_;exact Qh ⟨rfl,f.1⟩
theorem noNoZero:Tryz.f172.resultTypes=#[78]:=by kernel_rfl
theorem cv_makeNoZero{X:XP}(n:Nat)(a:n<=2^40):CV X Tryz.prog (.func (.func 172) #[] #[]) #[.int .i64 (n:Int)] h (fun v h'=>∃ r cs,v=.slice (some ⟨r,0,none⟩) n cs.size/\h.get r=none/\n<=cs.size/\h'={ h with get:=h.get.upd r (true,.cells cs 5 (0,0)) }):=by
 refine Dl (e:=Extern.BytealgMakeNoZero.makeNoZero Tryz.f172.params Tryz.f172.resultTypes) (fd:=Tryz.f172) (by kernel_rfl) (by kernel_rfl) (by kernel_rfl) (by kernel_rfl) (by kernel_rfl) ?_;rw[noNoZero];exact lwp_makeNoZero undBy a fun r cs hr hc=>⟨r,cs,rfl,hr,hc,rfl⟩
theorem c3766{p:Option Addr}(hb:h.get r=some (true,.cells #[.pointer p,.slice none 0 0] 80 (0,0)))(t:p=none\/p=some ⟨r,0,none⟩)(d:h0.get r=none)(hle:h0.le h)(y:n<=2^30) :
  FW X0 Tryz.prog 147 #[.pointer (some ⟨r,0,none⟩),.int .i64 (n:Int)] h fun v h'=>v=.tuple #[]/\BldR h0 h' r []:=by
 refine w3766 Qr ?_;have o:h.get.cell? ((⟨r,0,none⟩ : Addr).add 1)=some (.slice none 0 0):=Zx (i:=1) hb rfl;refine gZ ?_;refine t_capS undBy ?_;have w1:wrap .i64 (wrap .i64 (2*((0:Nat):Int))+(n:Int))=(n:Int):=by
  rw[Qm (n:=2*((0:Nat):Int)) (by omega) (by omega),Qm (by omega) (by omega)];omega
 refine gZ ?_;rw[w1];refine J9 (cv_makeNoZero n (by omega)) ?_;rintro _ h1 ⟨r1,cs,rfl,b,q,rfl⟩;have c:h.le { h with get:=h.get.upd r1 (true,.cells cs 5 (0,0)) }:=Q1 b;have k:({ h with get:=h.get.upd r1 (true,.cells cs 5 (0,0)) }:LH).get r1=some (true,.cells cs 5 (0,0)):=Qn _ _ _;revert c k;generalize ({ h with get:=h.get.upd r1 (true,.cells cs 5 (0,0)) }:LH)=h1;intro c k;have w:=Qo c.1 o;have hb1:=c.1 _ _ hb;have e:r1≠r:=by rintro rfl;rw[hb]at b;cases b
 refine gZ ?_;refine J7 undBy infU (i:=0) (Nat.zero_le _) ?_;obtain⟨z,g,_⟩:=Z3 infU;refine gZ ?_;refine t_copyNone undBy g ?_;refine gZ ?_;refine K0 (i:=1) hb1 rfl (by rfl) fun h2 l m=>?_;refine Qh ⟨rfl,⟨p,some ⟨r1,0,none⟩,cs.size,m,t,⟨rfl,.inr ⟨r1,cs,rfl,?_,(Nat.mul_one _).symm,Nat.zero_le _,fun j v s=>by simp at s⟩⟩,?_,?_⟩,d,H7 (LH.le_trans hle c) (l.ov d)⟩
 ·rw[l.1 r1 e];exact k
 ·intro a f;cases f;cases u:h0.get r1 with
  | none=>rfl
  | some x=>rw[hle.1 _ _ u]at b;cases b
 ·intro a f;cases f;exact e
theorem c3740(hb:h.get r=some (true,.cells #[.pointer none,.slice none 0 0] 80 (0,0)))(b:h0.get r=none)(hle:h0.le h)(j:n<=2^30) :
  FW X0 Tryz.prog 85 #[.pointer (some ⟨r,0,none⟩),.int .i64 (n:Int)] h fun v h'=>v=.tuple #[]/\BldR h0 h' r []:=by
 refine w3740 Qr ?_;refine Jp (c3739 hb (.inl rfl)) ?_;rintro _ h1 ⟨rfl,b1,d⟩;have c:h0.le h1:=H7 hle (b1.ov b);refine gZ ?_;refine Ja (fun vs h'=>vs=[]/\h1=h') ?_ ?_
 ·refine t_if (fun e=>by omega) (fun _=>?_);exact Qj ⟨rfl,rfl⟩
 rintro vs _ ⟨rfl,rfl⟩;have k:h1.get.cell? ((⟨r,0,none⟩ : Addr).add 1)=some (.slice none 0 0):=Zx (i:=1) d rfl;refine gZ ?_;refine t_capS undBy ?_;refine yJ (fun _=>?_) (fun e=>?_)
 ·refine Jp (c3766 d (.inr rfl) b c j) ?_;rintro _ h2 ⟨rfl,f⟩;refine gZ ?_;exact Qh ⟨rfl,f⟩
 ·exact Qh ⟨rfl,⟨_,none,0,d,.inr rfl,OwnRow.nil,NewIn.none,fun a g=>by cases g⟩,b,c⟩
end Go.Y.Txt
end
section
namespace Go.TM.Tp
theorem Dh(c:UInt8):∀ l:List Bs,(joinS c l).length=(l.map List.length).sum+(l.length-1)
 | []=>rfl
 | [a]=>by simp[joinS]
 | a::b::l=>by
  have d:=Dh c (b::l);show (a++c::joinS c (b::l)).length=_;rw[List.length_append,List.length_cons,d];simp;omega
theorem Uc:∀ (l:List Nat) (i:Nat),(l.take i).sum<=l.sum
 | [],i=>by simp
 | a::l,0=>by simp
 | a::l,i+1=>by
  have:=Uc l i;simp only[List.take_succ_cons,List.sum_cons];omega
theorem joinS_take(c:UInt8)(l:List Bs)(i:Nat):(joinS c (l.take i)).length<=(joinS c l).length:=by
 rw[Dh,Dh,List.map_take,List.length_take];have:=Uc (l.map List.length) i;omega
theorem sum_snoc{l:List Bs}{i:Nat}{x:Bs}(h:l[i]?=some x):((l.take (i+1)).map List.length).sum=((l.take i).map List.length).sum+x.length:=by
 rw[J3 h,List.map_append,List.sum_append];simp
end Go.TM.Tp
namespace Go.Y.Txt
open Go.TM.Tp
attribute [local irreducible] T.wp CV FWK
theorem c3716{h:LH}{p:Option Addr}{n k:Nat}{fs:List Bs}(s:BsS h p n k fs)(c:UInt8)(W:fs.length<=2^20)(Z:(joinS c fs).length<=2^29):Gr Tryz.prog 36 #[.slice p n k,.string (str [c])] h fun r _=>r=.string (str (joinS c fs)):=by
 refine w3716 Qr ?_;have q:=s.2.1;refine Qt (fun e=>?_) (fun e=>?_)
 ·have:fs=[]:=List.eq_nil_of_length_eq_zero (by
   have:(n:Int)=0:=by simpa using e
   omega)
  subst this;exact Qh ⟨LH.le_refl _,rfl⟩
 have S:n≠0:=by intro h0;subst h0;simp at e
 refine Qt (fun z=>?_) (fun z=>?_)
 ·have h1:n=1:=by
   have:(n:Int)=1:=by simpa using z
   omega
  match fs,q with
  | [x],_ =>
   obtain⟨a,f,m⟩:=s.at (i:=0) (x:=x) rfl;refine gT ⟨by omega,by omega⟩ (gS2 f (Qv m ?_));exact Qh ⟨LH.le_refl _,rfl⟩
  | [],q=>exact absurd q S
  | _::_::_,q=>simp at q;omega
 have n1:n≠1:=by intro h0;subst h0;simp at z
 have u:=Dh c fs;have hw:wrap .i64 ((n:Int)-1)=((fs.length-1:Nat):Int):=by rw[Qm (by omega) (by omega)];omega
 have d:(([c]:Bs).length:Int)=1:=rfl;refine Ja (fun vs h'=>vs=[.int .i64 ((fs.length-1:Nat):Int)]/\h=h') ?_ ?_
 ·refine Q8 undS ?_;rw[d];refine gZ ?_;refine t_if (fun _=>?_) (fun e=>absurd (by decide) e);refine Q8 undS ?_;rw[d];refine gZ ?_;rw[hw]
  try refine gT (by omega) ?_
  have X:(2:Int)<=Int.tdiv 9223372036854775807 ((fs.length-1:Nat):Int)/\Int.tdiv 9223372036854775807 ((fs.length-1:Nat):Int)<=9223372036854775807:=by
   rw[Int.tdiv_eq_ediv_of_nonneg (by omega)];refine⟨(Int.le_ediv_iff_mul_le (by omega)).2 (by omega),Int.ediv_le_self _ (by omega)⟩
  rw[Qm (n:=Int.tdiv 9223372036854775807 ((fs.length-1:Nat):Int)) (by omega) (by omega)];refine t_if (fun e=>by omega) (fun _=>?_);refine Q8 undS ?_;rw[d];refine gZ ?_;refine Qj ⟨?_,rfl⟩;rw[Qm (n:=1*((fs.length-1:Nat):Int)) (by omega) (by omega),Qm (by omega) (by omega)];congr 2;omega
 rintro vs _ ⟨rfl,rfl⟩;refine gZ ?_;refine Jl (fun w vs h'=>h=h'/\∃ i:Nat,vs=[.int .i64 (((fs.length-1)+((fs.take i).map List.length).sum:Nat):Int),.int .i64 i]/\i<=n/\w=n-i)
  (fun vs h'=>h=h'/\∃ i:Int,vs=[.int .i64 ((joinS c fs).length:Int),.int .i64 i]) ⟨rfl,0,by simp,Nat.zero_le _,rfl⟩ ?_ ?_
 ·rintro Y w vs _ A ⟨rfl,i,rfl,P,rfl⟩;have D:=Uc (fs.map List.length) i;rw[<- List.map_take]at D;refine yJ (fun m=>?_) (fun m=>?_)
  ·have j:=List.getElem?_eq_getElem (show i<fs.length by omega);generalize fs[i]=x at j;obtain⟨a,f,o⟩:=s.at j;have E:=sum_snoc j;have t:=Uc (fs.map List.length) (i+1);rw[<- List.map_take]at t;refine gT ⟨by omega,by omega⟩ (gS2 f (Qv (by rw[Int.toNat_natCast];exact o) ?_));refine Q8 undS ?_;refine gZ ?_;rw[Qm (n:=9223372036854775807-(((fs.length-1)+((fs.take i).map List.length).sum:Nat):Int)) (by omega) (by omega)];refine t_if (fun e=>by omega) (fun _=>?_);refine Q8 undS ?_;refine gZ ?_;refine Qj (A (n-(i+1)) _ _ (by omega) ⟨rfl,i+1,?_,by omega,rfl⟩);rw[Qm (by omega) (by omega),Qm (by omega) (by omega),E];congr 2
   ·congr 1;omega
  ·have Q:i=n:=by omega
   refine gH ⟨rfl,(i:Int),?_⟩;rw[u,List.take_of_length_le (by omega)];congr 2;congr 1;omega
 rintro vs _ ⟨rfl,i,rfl⟩;refine gZ ?_;refine Yh fun r h1 H C hr=>?_;refine Jp (c3740 (h0:=h) hr C H (by omega)) ?_;rintro _ h2 ⟨rfl,J⟩;refine gZ ?_;have j:=List.getElem?_eq_getElem (show 0<fs.length by omega);generalize R:fs[0]=x at j;obtain⟨a,f,o⟩:=(s.le J.le).at j;have v:fs.take 1=[x]:=by
  have:=J3 j;rw[this];rfl
 have b:=joinS_take c fs 1;rw[v]at b;have b:x.length<=(joinS c fs).length:=b;refine gS2 f (Qv o ?_);refine Jp (c3715 J (by simp;omega)) ?_;rintro _ h3 ⟨rfl,L⟩;refine gZ ?_;refine t_sliceLow undSs infS (i:=1) (by omega) ?_;have st:Sl BsE 1 h.get (if k=1 then p else p.map (·.add (1*1))) (n-1) (fs.drop 1):=s.2.drop s.1;revert st;generalize (if k=1 then p else p.map (·.add (1*1)))=U;intro st;have st:BsS h U (n-1) (k-1) (fs.drop 1):=⟨by have:=s.1;omega,st⟩
 refine gZ ?_;refine Jl (fun w vs h'=>∃ i:Nat,vs=[.int .i64 i]/\i<=n-1/\w=n-1-i/\BldR h h' r (joinS c (fs.take (i+1))))
  (fun vs h'=>(∃ i:Int,vs=[.int .i64 i])/\BldR h h' r (joinS c fs)) ⟨0,rfl,Nat.zero_le _,rfl,by rw[Nat.zero_add,v];exact L⟩ ?_ ?_
 ·rintro Y w vs O A ⟨i,rfl,P,rfl,l⟩;refine yJ (fun m=>?_) (fun m=>?_)
  ·have F:=List.getElem?_eq_getElem (show i+1<fs.length by omega);generalize fs[i+1]=y at F;have G:(fs.drop 1)[i]?=some y:=by rw[List.getElem?_drop,Nat.add_comm];exact F
   obtain⟨a,f,o⟩:=(st.le l.le).at G;have B:fs.take (i+1)≠[]:=fun e=>by
    have h2:(fs.take (i+1)).length=0:=by rw[e];rfl
    rw[List.length_take]at h2;omega
   have K:joinS c (fs.take (i+1+1))=joinS c (fs.take (i+1))++[c]++y:=by
    rw[J3 F,Uv B,List.append_assoc];rfl
   have g:=joinS_take c fs (i+1+1);rw[K,List.length_append,List.length_append,List.length_singleton]at g;refine gT ⟨by omega,by omega⟩ (gS2 f (Qv (by rw[Int.toNat_natCast];exact o) ?_));refine Jp (c3715 l (by rw[List.length_singleton];omega)) ?_;rintro _ h5 ⟨rfl,M⟩;refine gZ ?_;refine Jp (c3715 M (by rw[List.length_append,List.length_singleton];omega)) ?_;rintro _ V ⟨rfl,N⟩;refine gZ ?_;refine Qj (A (n-1-(i+1)) _ _ (by omega) ⟨i+1,?_,by omega,rfl,by rw[K];exact N⟩);rw[Qm (by omega) (by omega)];rfl
  ·rw[List.take_of_length_le (by omega)]at l;exact gH ⟨⟨_,rfl⟩,l⟩
 ·rintro vs O ⟨⟨i,rfl⟩,l⟩;refine gZ ?_;refine Jp (c3721 l (by omega)) ?_;rintro _ h5 ⟨rfl,I⟩;refine Qs ?_;exact Qh ⟨I,rfl⟩
end Go.Y.Txt
end
