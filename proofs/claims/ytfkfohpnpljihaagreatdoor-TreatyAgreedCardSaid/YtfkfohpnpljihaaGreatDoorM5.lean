/- Contracts and laws for the proof, joined by a program. No condition. -/
import Derived.Test.YtfkfohpnpljihaaGreatDoorM4
set_option linter.all false
noncomputable section
open Go Go.Conc Go.TM Go.Proofs
set_option maxRecDepth 100000
open Go.IntKind (wrap)
section
namespace Go.TM
def LstE(h:Cells)(a:Addr)(l:List Int):Prop:=∃ q n c,h.cell? a=some (.slice q n c)/\Sl IntE 1 h q n l
variable {h:Cells}{r n c:Nat}{m:Bool}{el:TypeId}{p:Option Addr}{a:List Int}
theorem LstE.grow:Grow LstE:=fun _ _ _ _ a ⟨q,n,c,h1,h2⟩=>⟨q,n,c,a _ _ h1,h2.rd IntE.grow a⟩
theorem sorted_len:∀ (l:List Int) (k:Int),l.Pairwise (·<·)->(∀ v∈l,k<=v/\v<8)->(l.length:Int)<=max 0 (8-k):=by
 intro l
 induction l with
 | nil=>intro k _ _;simp;omega
 | cons x l b =>
  intro k a hv;obtain⟨h1,h2⟩:=List.pairwise_cons.1 a;have c:=hv x (by simp);have:=b (x+1) h2 fun v hm=>⟨by have:=h1 v hm;omega,(hv v (by simp[hm])).2⟩;simp only[List.length_cons];omega
theorem ListOk.len8{t:GTab}{e:Int}{l:List Int}(ok:TabOk t)(o:ListOk t e l):l.length<=8:=by
 have:=sorted_len l 0 o.up (o.in8 ok);omega
theorem sl_two{q:Option Addr}{k d:Nat}{b:List Int}(hr:h r=some (m,.cells #[.slice p n c,.slice q k d] el (0,0)))(f:Sl IntE 1 h p n a)(hb:Sl IntE 1 h q k b):Sl LstE 1 h (some ⟨r,0,none⟩) 2 [a,b]:=by
 refine⟨rfl,by simp,fun i x e=>⟨_,rfl,?_⟩⟩
 match i,e with
 | 0,e=>cases e;exact⟨p,n,c,by rw[Qh];unfold Cells.cell?;rw[hr];rfl,f⟩
 | 1,e=>cases e;exact⟨q,k,d,by rw[Qh];unfold Cells.cell?;rw[hr];rfl,hb⟩
theorem sl_one(hr:h r=some (m,.cells #[.slice p n c] el (0,0)))(d:Sl IntE 1 h p n a):Sl LstE 1 h (some ⟨r,0,none⟩) 1 [a]:=by
 refine⟨rfl,by simp,fun i x b=>⟨_,rfl,?_⟩⟩
 match i,b with
 | 0,b=>cases b;exact⟨p,n,c,by rw[Qh];unfold Cells.cell?;rw[hr];rfl,d⟩
end Go.TM
namespace Go.Y
attribute [local irreducible] T.wp CV FWK
theorem infL:(Tryz.prog.info? 30).map (fun i=>(i.size,i.bytes,i.zero))=some (1,24,some (.slice none 0 0)):=by kernel_rfl
theorem c3133{h:LH}{f:TabC}{t:GTab}(hr:TabR h.get f t)(ok:TabOk t){e:Int}(he:0<=e/\e<(t.eds.length:Int)){p:Option Addr}{n c:Nat}{ls:List (List Int)}(w:Sl LstE 1 h.get p n ls)(x:∀ l∈ls,ListOk t e l) :
  Gr Tryz.prog 111 #[tabV f,.int .i64 e,.slice p n c] h fun r _=>r=.tuple #[tabV f,.int .i64 0]:=by
 refine w3133 Qn ?_;refine t_gr (c3160 hr ok) ?_;rintro _ h1 g rfl;have j:=hr.le g.1;have b:=w.le LstE.grow g.1;have C:=b.1;have hb:=b.2.1;refine yF ?_;refine t_pu (c3161 j _) ?_;rw[K1.2 (show 0<=e/\e<=(t.eds.length:Int)-1 by omega)];refine yF ?_;refine Qq (fun m vs h'=>h'=h1/\∃ i:Nat,vs=[.int .i64 0,.int .i64 i,.slice none 0 0,.slice none 0 0,.slice none 0 0]/\i<=n/\m=n-i) ⟨rfl,0,rfl,Nat.zero_le _,rfl⟩ ?_;rintro Y m vs _ u ⟨rfl,i,rfl,B,rfl⟩;refine yJ (fun o=>?_) (fun o=>?_)
 ·obtain⟨l,a,y,A,q,k,d,z,s⟩:=b.at (i:=i) (by omega);have v:0<=(i:Int)/\(i:Int)<(n:Int):=by omega
  refine gZ ?_;refine t_pu (c3136 j s (x l (List.mem_of_getElem? y))) ?_;refine yF ?_;refine Qa (u (n-(i+1)) _ _ (by omega) ⟨rfl,i+1,?_,by omega,rfl⟩);rw[Qj (by omega) (by omega)];rfl
 ·refine gZ ?_;exact Qe ⟨g,rfl⟩
end Go.Y
end
namespace Go.Y
section
attribute [local irreducible] T.wp CV FWK
theorem wrap_u8{n:Int}(h:0<=n/\n<=255):IntKind.i64.wrap n=n:=Qj (by omega) (by omega)
theorem tmod_nn{a b:Int}(c:0<=a):Int.tmod a b=a%b:=by rw[Int.tmod_eq_emod_of_nonneg c]
end
section
attribute [local irreducible] T.wp CV FWK
theorem mod_pos{n b:Int}(hb:0<b):0<=n%b/\n%b<b:=⟨Int.emod_nonneg _ (by omega),Int.emod_lt_of_pos _ hb⟩
end
end Go.Y
section
namespace Go.TM
theorem setL_sub{a b:List Int}(h:∀ v∈a,v∈b):Te.Sub (setL a) (setL b):=fun n c=>by
 unfold setL at c ⊢;simp only[List.contains_iff_mem]at c ⊢;exact h _ c
theorem listT_sub{s t:Te.Items}(h:Te.Sub s t):∀ v∈listT s,v∈listT t:=by
 intro v hv;unfold listT at hv ⊢;simp only[List.mem_map,List.mem_filter]at hv ⊢;obtain⟨j,⟨h1,h2⟩,rfl⟩:=hv;exact⟨j,⟨h1,h _ h2⟩,rfl⟩
theorem cover_up(t:GTab)(a b:Int){x y:List Int}(h:∀ v∈x,v∈y):Te.Sub (coverAt t a b x).1 (coverAt t a b y).1/\Te.Sub (coverAt t a b x).2 (coverAt t a b y).2 :=
 Te.move_up _ _ _ _ _ _ (setL_sub h) (setL_sub h)
end Go.TM
namespace Go.Y
attribute [local irreducible] T.wp CV FWK
end Go.Y
end
namespace Go.Y.Tre
section
open Go.TM.Tr
attribute [local irreducible] T.wp CV FWK
variable {x:TF}{h:LH}{f:TC}{land day item:Int}
theorem not_and_false{a b:Bool}(h:a=false):(a&&b)=false:=by rw[h];rfl
def numsB(x:TF):Bool:=inB x.items 0 5&&(inB x.lands 1 3&&(dayB x.start&&(dayB x.depend&&(dayB x.refuse&&dayB x.turn))))
theorem U8(h:numsB x=true):IsI (x.lands-1)/\IsI (x.items-1):=by
 simp[numsB,inB]at h;unfold IsI;omega
theorem Jr(h:numsB x=false):checkT x=1:=by unfold checkT;exact if_pos h
theorem checkT_many(h:numsB x=true)(h2:10<x.events.length):checkT x=2:=by
 unfold checkT;rw[if_neg (by unfold numsB at h;rw[h];simp),if_pos h2]
theorem checkT_each(h:numsB x=true)(h2:¬ 10<x.events.length):checkT x=firstT (fun _ e=>eventT x e) 0 x.events:=by
 unfold checkT;rw[if_neg (by unfold numsB at h;rw[h];simp),if_neg h2]
theorem check_is(h:checkT x=0):IsI (x.lands-1)/\IsI (x.items-1):=by
 have:=Jx h;unfold IsI;omega
theorem c2021(w:Kinds h.get)(s:TreatyR h.get f x):Pu Tryz.prog 176 #[treatyV f x] h (.int .i64 (checkT x)):=by
 refine w2021 Qn ?_;have G:=s.2.1;have hb:=s.2.2.1;refine Jw (fun vs h'=>vs=[.int .i64 0]/\numsB x=true/\h=h') ?_ ?_
 ·refine t_pu (c2052 _ _ _) ?_;refine yI (fun e=>?_) (fun j=>?_)
  ·refine gI ?_;refine gZ ?_;exact Qe ⟨by rw[Jr (not_and_false (by simpa using e))],rfl⟩
  have j:inB x.items 0 5=true:=by simpa using j
  refine t_pu (c2052 _ _ _) ?_;refine yI (fun e=>?_) (fun g=>?_)
  ·refine gI ?_;refine gZ ?_;have e:inB x.lands 1 3=false:=by simpa using e
   exact Qe ⟨by rw[Jr (by simp[numsB,e])],rfl⟩
  have g:inB x.lands 1 3=true:=by simpa using g
  refine t_pu (c2053 _) ?_;refine yI (fun e=>?_) (fun k=>?_)
  ·refine gI ?_;refine gZ ?_;have e:dayB x.start=false:=by simpa using e
   exact Qe ⟨by rw[Jr (by simp[numsB,e])],rfl⟩
  have k:dayB x.start=true:=by simpa using k
  refine t_pu (c2053 _) ?_;refine yI (fun e=>?_) (fun l=>?_)
  ·refine gI ?_;refine gZ ?_;have e:dayB x.depend=false:=by simpa using e
   exact Qe ⟨by rw[Jr (by simp[numsB,e])],rfl⟩
  have l:dayB x.depend=true:=by simpa using l
  refine t_pu (c2053 _) ?_;refine yI (fun e=>?_) (fun o=>?_)
  ·refine gI ?_;refine gZ ?_;have e:dayB x.refuse=false:=by simpa using e
   exact Qe ⟨by rw[Jr (by simp[numsB,e])],rfl⟩
  have o:dayB x.refuse=true:=by simpa using o
  refine t_pu (c2053 _) ?_;refine yI (fun e=>?_) (fun p=>?_)
  ·refine gI ?_;refine gZ ?_;have e:dayB x.turn=false:=by simpa using e
   exact Qe ⟨by rw[Jr (by simp[numsB,e])],rfl⟩
  have p:dayB x.turn=true:=by simpa using p
  exact Qa ⟨rfl,by simp[numsB,j,g,k,l,o,p],rfl⟩
 rintro vs _ ⟨rfl,b,rfl⟩;refine yJ (fun e=>?_) (fun e=>?_)
 ·exact Qe ⟨by rw[checkT_many b (by omega)],rfl⟩
 have r:=checkT_each b (by omega);refine Qq (fun t vs h'=>h=h'/\∃ i:Nat,vs=[.int .i64 0,.int .i64 i]/\i<=f.n/\t=f.n-i/\checkT x=firstT (fun _ e=>eventT x e) i (x.events.drop i)) ⟨rfl,0,rfl,Nat.zero_le _,rfl,r⟩ ?_;rintro Y t vs _ v ⟨rfl,i,rfl,F,rfl,hc⟩;refine yJ (fun g=>?_) (fun g=>?_)
 ·obtain⟨y,a,z,E,g0,A,B,⟨q,m,c,C,_,u⟩,D⟩:=s.2.at (i:=i) (by omega);rw[Jd z,firstT]at hc;refine gZ ?_;refine t_pu (c2054 w (f:=f) (x:=x) (e:=y) (U8 b).1 (U8 b).2 u) ?_;refine yI (fun d=>?_) (fun d=>?_)
  ·refine gZ ?_;rw[if_pos (by simpa using d)]at hc;exact Qe ⟨by rw[hc],rfl⟩
  ·rw[if_neg (by simpa using d)]at hc;refine Qa (v (f.n-(i+1)) _ _ (by omega) ⟨rfl,i+1,?_,by omega,rfl,hc⟩);rw[Qj (by omega) (by omega)];rfl
 ·refine gZ ?_;rw[List.drop_eq_nil_of_le (by omega),firstT]at hc;exact Qe ⟨by rw[hc],rfl⟩
def askedT(x:TF)(land:Int):Int:=if checkT x≠0 then checkT x else if inB land 0 (x.lands-1)=false then 6 else 0
def Qu(x:TF)(land day:Int):Int:=if askedT x land≠0 then askedT x land else if dayB day then 0 else 1
def Q9(x:TF)(land item:Int):Int:=if askedT x land≠0 then askedT x land else if inB item 0 (x.items-1) then 0 else 6
def Jv(x:TF)(land item day:Int):Int:=if Q9 x land item≠0 then Q9 x land item else if dayB day then 0 else 1
theorem G8(h:askedT x land=0):checkT x=0/\inB land 0 (x.lands-1)=true:=by
 unfold askedT at h;split at h
 ·rename_i h1;exact absurd h h1
 ·rename_i h1;split at h
  ·cases h
  ·rename_i h2;exact⟨by simpa using h1,by simpa using h2⟩
theorem De(h:Qu x land day=0):askedT x land=0/\dayB day=true:=by
 unfold Qu at h;split at h
 ·rename_i h1;exact absurd h h1
 ·rename_i h1;split at h
  ·rename_i h2;exact⟨by simpa using h1,h2⟩
  ·cases h
theorem askedItem_ok(h:Q9 x land item=0):askedT x land=0/\inB item 0 (x.items-1)=true:=by
 unfold Q9 at h;split at h
 ·rename_i h1;exact absurd h h1
 ·rename_i h1;split at h
  ·rename_i h2;exact⟨by simpa using h1,h2⟩
  ·cases h
theorem askedAll_ok(h:Jv x land item day=0):Q9 x land item=0/\dayB day=true:=by
 unfold Jv at h;split at h
 ·rename_i h1;exact absurd h h1
 ·rename_i h1;split at h
  ·rename_i h2;exact⟨by simpa using h1,h2⟩
  ·cases h
theorem c2079(b:Kinds h.get)(c:TreatyR h.get f x)(land:Int):Pu Tryz.prog 133 #[treatyV f x,land] h (.int .i64 (askedT x land)):=by
 refine w2079 Qn ?_;refine t_pu (c2021 b c) ?_;refine yI (fun e=>?_) (fun e=>?_)
 ·exact Qe ⟨by rw[askedT,if_pos (by simpa using e)],rfl⟩
 have e:checkT x=0:=by simpa using e
 have a:=check_is e;rw[Qj a.1.1 a.1.2];refine t_pu (c2052 _ _ _) ?_;refine yI (fun d=>?_) (fun d=>?_)
 ·exact Qe ⟨by rw[askedT,if_neg (by simp[e]),if_pos (by simpa using d)],rfl⟩
 ·exact Qe ⟨by rw[askedT,if_neg (by simp[e]),if_neg (by simp at d;simp[d])],rfl⟩
theorem c2063(a:Kinds h.get)(b:TreatyR h.get f x)(land day:Int):Pu Tryz.prog 83 #[treatyV f x,land,day] h (.int .i64 (Qu x land day)):=by
 refine w2063 Qn ?_;refine t_pu (c2079 a b land) ?_;refine yI (fun e=>?_) (fun e=>?_)
 ·exact Qe ⟨by rw[Qu,if_pos (by simpa using e)],rfl⟩
 have e:askedT x land=0:=by simpa using e
 refine t_pu (c2053 _) ?_;refine yI (fun d=>?_) (fun d=>?_)
 ·exact Qe ⟨by rw[Qu,if_neg (by simp[e]),if_pos d,e],rfl⟩
 ·exact Qe ⟨by rw[Qu,if_neg (by simp[e]),if_neg (by simp[d])],rfl⟩
theorem c2058(b:Kinds h.get)(c:TreatyR h.get f x)(land item:Int):Pu Tryz.prog 85 #[treatyV f x,land,item] h (.int .i64 (Q9 x land item)):=by
 refine w2058 Qn ?_;refine t_pu (c2079 b c land) ?_;refine yI (fun e=>?_) (fun e=>?_)
 ·exact Qe ⟨by rw[Q9,if_pos (by simpa using e)],rfl⟩
 have e:askedT x land=0:=by simpa using e
 have a:=check_is (G8 e).1;rw[Qj a.2.1 a.2.2];refine t_pu (c2052 _ _ _) ?_;refine yI (fun d=>?_) (fun d=>?_)
 ·exact Qe ⟨by rw[Q9,if_neg (by simp[e]),if_pos d,e],rfl⟩
 ·exact Qe ⟨by rw[Q9,if_neg (by simp[e]),if_neg (by simp[d])],rfl⟩
theorem c2066(a:Kinds h.get)(b:TreatyR h.get f x)(land item day:Int):Pu Tryz.prog 88 #[treatyV f x,land,item,day] h (.int .i64 (Jv x land item day)):=by
 refine w2066 Qn ?_;refine t_pu (c2058 a b land item) ?_;refine yI (fun e=>?_) (fun e=>?_)
 ·exact Qe ⟨by rw[Jv,if_pos (by simpa using e)],rfl⟩
 have e:Q9 x land item=0:=by simpa using e
 refine t_pu (c2053 _) ?_;refine yI (fun d=>?_) (fun d=>?_)
 ·exact Qe ⟨by rw[Jv,if_neg (by simp[e]),if_pos d,e],rfl⟩
 ·exact Qe ⟨by rw[Jv,if_neg (by simp[e]),if_neg (by simp[d])],rfl⟩
end
section
open Go.TM.Tr
attribute [local irreducible] T.wp CV FWK
variable {h:LH}{f:TC}{x:TF}
theorem c2057{e:Ev}{q:Option Addr}{m c:Nat}(B:IsI (x.lands-1))(A:IsI (x.items-1))(t:Sl IntE 1 h.get q m e.items) :
  Pu Tryz.prog 82 #[treatyV f x,.agg #[.int .i64 e.kind,.int .i64 e.day,.int .i64 e.land,.slice q m c,.int .i64 e.since]] h (.int .i64 (eventT x e)):=by
 refine w2057 Qn ?_;have hm:=t.1;have hb:=t.2.1;refine Jw (fun vs h'=>vs=[.int .i64 0]/\(inB e.kind 0 6&&(dayB e.day&&dayB e.since))=true/\h=h') ?_ ?_
 ·have bad:(inB e.kind 0 6&&(dayB e.day&&dayB e.since))=false->eventT x e=1:=fun hb=>by rw[eventT,if_pos hb]
  refine t_if (fun u=>?_) (fun u=>?_)
  ·refine gI ?_;refine gZ ?_;exact Qe ⟨by rw[bad (by rw[show inB e.kind 0 6=false by unfold inB;rw[decide_eq_false (by omega),Bool.false_and]];rfl)],rfl⟩
  refine t_if (fun v=>?_) (fun v=>?_)
  ·refine gI ?_;refine gZ ?_;exact Qe ⟨by rw[bad (by rw[show inB e.kind 0 6=false by unfold inB;rw[decide_eq_false (p:=e.kind<=6) (by omega),Bool.and_false]];rfl)],rfl⟩
  have J:inB e.kind 0 6=true:=by unfold inB;rw[decide_eq_true (by omega),decide_eq_true (by omega)];rfl
  refine t_pu (c2056 _) ?_;refine yI (fun g=>?_) (fun g=>?_)
  ·refine gI ?_;refine gZ ?_;have:dayB e.day=false:=by simpa using g
   exact Qe ⟨by rw[bad (by rw[this];simp)],rfl⟩
  have H:dayB e.day=true:=by simpa using g
  refine t_pu (c2056 _) ?_;refine yI (fun g=>?_) (fun g=>?_)
  ·refine gI ?_;refine gZ ?_;have:dayB e.since=false:=by simpa using g
   exact Qe ⟨by rw[bad (by rw[this];simp)],rfl⟩
  have he:dayB e.since=true:=by simpa using g
  exact Qa ⟨rfl,by rw[J,H,he];rfl,rfl⟩
 rintro vs _ ⟨rfl,E,rfl⟩;have j:eventT x e=if inB e.land 0 (x.lands-1)=false then 6 else if itemsT e.items x.items≠0 then itemsT e.items x.items else if (e.kind=4/\e.land≠0)\/(e.kind≠4/\e.kind≠6/\e.since≠0) then 1 else if e.since>e.day then 7 else 0:=by
  rw[eventT,if_neg (by rw[E];simp)]
 refine gZ ?_;rw[Qj B.1 B.2];refine t_pu (c49 _ _ _) ?_;refine yI (fun d=>?_) (fun d=>?_)
 ·refine Qe ⟨?_,rfl⟩;rw[j,if_pos (by simpa using d)]
 have k:eventT x e=if itemsT e.items x.items≠0 then itemsT e.items x.items else if (e.kind=4/\e.land≠0)\/(e.kind≠4/\e.kind≠6/\e.since≠0) then 1 else if e.since>e.day then 7 else 0:=by
  rw[j,if_neg (by simp at d;simp[d])]
 refine Qq (fun D vs h'=>h=h'/\∃ i:Nat,vs=[.int .i64 0,.int .i64 i]/\i<=m/\D=m-i/\itemsT e.items x.items=firstT (Tr.stepT e.items x.items) i (e.items.drop i)) ⟨rfl,0,rfl,Nat.zero_le _,rfl,rfl⟩ ?_;rintro Y D vs _ F ⟨rfl,i,rfl,I,rfl,hc⟩;refine yJ (fun u=>?_) (fun u=>?_)
 ·obtain⟨y,a,C,G,v⟩:=t.at (i:=i) (by omega);unfold IntE at v;rw[Jd C,firstT]at hc;refine gZ ?_;rw[Qj A.1 A.2];refine t_pu (c49 _ _ _) ?_;refine gZ ?_;have next:Tr.stepT e.items x.items i y=0->Y [.int .i64 0,.int .i64 (wrap .i64 ((i:Int)+1))] h:=by
   intro o;rw[if_neg (by rw[o];simp)]at hc;refine F (m-(i+1)) _ _ (by omega) ⟨rfl,i+1,?_,by omega,rfl,hc⟩;rw[Qj (by omega) (by omega)];rfl
  have stop:∀ z:Int,z≠0->Tr.stepT e.items x.items i y=z->eventT x e=z:=by
   intro z o hr;rw[hr,if_pos o]at hc;rw[k,hc,if_pos o]
  refine Qt (fun d1=>?_) (fun d1=>?_)
  ·refine gZ ?_;refine Qe ⟨?_,rfl⟩;rw[stop 6 (by decide) (by rw[Tr.stepT,if_pos (by simpa using d1)])]
  have n:¬ inB y 0 (x.items-1)=false:=by simp at d1;simp[d1]
  refine t_if (fun d2=>?_) (fun d2=>?_)
  ·obtain⟨z,K,o,r,g⟩:=t.at (i:=i-1) (by omega);unfold IntE at g;rw[G]at r;cases r;have w:wrap .i64 ((i:Int)-1)=((i-1:Nat):Int):=by rw[Qj (by omega) (by omega)];omega
   have l:=itemsT_run (b:=x.items) C (fun _=>o);rw[w];refine yJ (fun d3=>?_) (fun d3=>?_)
   ·refine gZ ?_;refine Qe ⟨?_,rfl⟩;rw[stop 7 (by decide) (by rw[l,if_neg n,if_pos ⟨by omega,d3⟩])]
   ·exact Qa (next (by rw[l,if_neg n,if_neg (by omega)]))
  ·refine gZ ?_;exact Qa (next (by rw[Tr.stepT,if_neg n,if_neg (by omega)]))
 ·refine gZ ?_;rw[List.drop_eq_nil_of_le (by omega),firstT]at hc;have s:eventT x e=if (e.kind=4/\e.land≠0)\/(e.kind≠4/\e.kind≠6/\e.since≠0) then 1 else if e.since>e.day then 7 else 0:=by
   rw[k,if_neg (by rw[hc];simp)]
  rw[s]
  repeat' first
   | (refine Qt (fun _=>?_) (fun _=>?_))
   | (refine Qe ⟨?_,rfl⟩)
  all_goals (congr 1;simp_all;try omega)
theorem c2022(s:TreatyR h.get f x):Pu Tryz.prog 39 #[treatyV f x] h (.int .i64 (checkT x)):=by
 refine w2022 Qn ?_;have F:=s.2.1;have hb:=s.2.2.1;refine Jw (fun vs h'=>vs=[.int .i64 0]/\numsB x=true/\h=h') ?_ ?_
 ·refine t_pu (c49 _ _ _) ?_;refine yI (fun e=>?_) (fun j=>?_)
  ·refine gI ?_;refine gZ ?_;exact Qe ⟨by rw[Jr (not_and_false (by simpa using e))],rfl⟩
  have j:inB x.items 0 5=true:=by simpa using j
  refine t_pu (c49 _ _ _) ?_;refine yI (fun e=>?_) (fun g=>?_)
  ·refine gI ?_;refine gZ ?_;have e:inB x.lands 1 3=false:=by simpa using e
   exact Qe ⟨by rw[Jr (by simp[numsB,e])],rfl⟩
  have g:inB x.lands 1 3=true:=by simpa using g
  refine t_pu (c2056 _) ?_;refine yI (fun e=>?_) (fun k=>?_)
  ·refine gI ?_;refine gZ ?_;have e:dayB x.start=false:=by simpa using e
   exact Qe ⟨by rw[Jr (by simp[numsB,e])],rfl⟩
  have k:dayB x.start=true:=by simpa using k
  refine t_pu (c2056 _) ?_;refine yI (fun e=>?_) (fun l=>?_)
  ·refine gI ?_;refine gZ ?_;have e:dayB x.depend=false:=by simpa using e
   exact Qe ⟨by rw[Jr (by simp[numsB,e])],rfl⟩
  have l:dayB x.depend=true:=by simpa using l
  refine t_pu (c2056 _) ?_;refine yI (fun e=>?_) (fun o=>?_)
  ·refine gI ?_;refine gZ ?_;have e:dayB x.refuse=false:=by simpa using e
   exact Qe ⟨by rw[Jr (by simp[numsB,e])],rfl⟩
  have o:dayB x.refuse=true:=by simpa using o
  refine t_pu (c2056 _) ?_;refine yI (fun e=>?_) (fun p=>?_)
  ·refine gI ?_;refine gZ ?_;have e:dayB x.turn=false:=by simpa using e
   exact Qe ⟨by rw[Jr (by simp[numsB,e])],rfl⟩
  have p:dayB x.turn=true:=by simpa using p
  exact Qa ⟨rfl,by simp[numsB,j,g,k,l,o,p],rfl⟩
 rintro vs _ ⟨rfl,b,rfl⟩;refine yJ (fun e=>?_) (fun e=>?_)
 ·exact Qe ⟨by rw[checkT_many b (by omega)],rfl⟩
 have r:=checkT_each b (by omega);refine Qq (fun t vs h'=>h=h'/\∃ i:Nat,vs=[.int .i64 0,.int .i64 i]/\i<=f.n/\t=f.n-i/\checkT x=firstT (fun _ e=>eventT x e) i (x.events.drop i)) ⟨rfl,0,rfl,Nat.zero_le _,rfl,r⟩ ?_;rintro Y t vs _ v ⟨rfl,i,rfl,E,rfl,hc⟩;refine yJ (fun g=>?_) (fun g=>?_)
 ·obtain⟨y,a,w,D,g0,z,A,⟨q,m,c,B,_,u⟩,C⟩:=s.2.at (i:=i) (by omega);rw[Jd w,firstT]at hc;refine gZ ?_;refine t_pu (c2057 (h:=h) (f:=f) (x:=x) (e:=y) (U8 b).1 (U8 b).2 u) ?_;refine yI (fun d=>?_) (fun d=>?_)
  ·refine gZ ?_;rw[if_pos (by simpa using d)]at hc;exact Qe ⟨by rw[hc],rfl⟩
  ·rw[if_neg (by simpa using d)]at hc;refine Qa (v (f.n-(i+1)) _ _ (by omega) ⟨rfl,i+1,?_,by omega,rfl,hc⟩);rw[Qj (by omega) (by omega)];rfl
 ·refine gZ ?_;rw[List.drop_eq_nil_of_le (by omega),firstT]at hc;exact Qe ⟨by rw[hc],rfl⟩
end
section
open Go.TM.Tr
attribute [local irreducible] T.wp CV FWK
def matV(f:TC)(x:TF)(k i:Int):Value:=.agg #[.int .i64 x.items,.int .i64 x.lands,.int .i64 x.start,.int .i64 x.depend,.int .i64 x.refuse,.int .i64 x.turn,.slice f.p f.n f.c,.int .i64 k,.int .i64 i]
structure MatAt(h:Cells)(a:Addr)(f:TC)(x:TF)(k i:Int):Prop where
 f0:h.cell? ((a.add 0).add 0)=some (.int .i64 x.items)
 f1:h.cell? ((a.add 0).add 1)=some (.int .i64 x.lands)
 f2:h.cell? ((a.add 0).add 2)=some (.int .i64 x.start)
 f3:h.cell? ((a.add 0).add 3)=some (.int .i64 x.depend)
 f4:h.cell? ((a.add 0).add 4)=some (.int .i64 x.refuse)
 f5:h.cell? ((a.add 0).add 5)=some (.int .i64 x.turn)
 f6:h.cell? ((a.add 0).add 6)=some (.slice f.p f.n f.c)
 f7:h.cell? ((a.add 0).add 7)=some (.int .i64 k)
 f8:h.cell? ((a.add 0).add 8)=some (.int .i64 i)
variable {h:LH}{a:Addr}{f:TC}{x:TF}{k i:Int}{K:Nat}{X:XP}
theorem MatAt.rd{h h':Cells}(b:Rd h h')(m:MatAt h a f x k i):MatAt h' a f x k i :=
 ⟨b _ _ m.f0,b _ _ m.f1,b _ _ m.f2,b _ _ m.f3,b _ _ m.f4,b _ _ m.f5,b _ _ m.f6,b _ _ m.f7,b _ _ m.f8⟩
theorem MatAt.le{h h':Cells}{a:Addr}{f:TC}{x:TF}{k i:Int}(b:h.le h')(m:MatAt h a f x k i):MatAt h' a f x k i:=m.rd (Ja b)
theorem Ga(a:Addr):a.add 0=a:=by unfold Addr.add;simp
theorem U6(a:Addr)(i:Nat):(a.add 0).add i=a.add i:=by rw[Ga]
theorem MatAt.s7{h:Cells}(m:MatAt h a f x k i):h.cell? (a.add 7)=some (.int .i64 k):=by have:=m.f7;rwa[U6]at this
theorem MatAt.s8{h:Cells}(m:MatAt h a f x k i):h.cell? (a.add 8)=some (.int .i64 i):=by have:=m.f8;rwa[U6]at this
def allB(K:Nat)(k i:Int)(e:Ev):Bool:=(e.kind==(K:Int))&&((!landK K||(e.land==k))&&e.items.contains i)
theorem K2(a:K≠4)(k i:Int)(e:Ev):allB K k i e=about e K k i:=by
 unfold allB about landK;have:Nat.beq K 4=false:=by
  cases hb:Nat.beq K 4 with
  | false=>rfl
  | true=>exact absurd (Nat.eq_of_beq_eq_true hb) a
 simp[this]
def handedE{α:Type}(V:Nat->Value)(s:α->Bool):List α->Nat->List (List Value)
 | [],_=>[]
 | x::l,i=>if s x then [V i]::handedE V s l (i+1) else handedE V s l (i+1)
theorem handedE_len{α:Type}(V:Nat->Value)(s:α->Bool):∀ (l:List α) (i:Nat),(handedE V s l i).length=(l.filter s).length:=by
 intro l
 induction l with
 | nil=>intro i;rfl
 | cons x l a=>intro i;rw[handedE,List.filter_cons];split<;>simp[a]
theorem handedE_get{α:Type}(V:Nat->Value)(s:α->Bool):∀ (l:List α) (i k:Nat) xs,(handedE V s l i)[k]?=some xs->∃ x j,(l.filter s)[k]?=some x/\l[j]?=some x/\xs=[V (i+j)]:=by
 intro l
 induction l with
 | nil=>intro i k xs h;simp[handedE]at h
 | cons x l b =>
  intro i k xs h;rw[handedE]at h;rw[List.filter_cons];split at h
  ·rename_i a;rw[if_pos a];cases k with
   | zero=>simp at h;exact⟨x,0,rfl,rfl,by simp[<- h]⟩
   | succ k =>
    obtain⟨y,j,h1,h2,h3⟩:=b (i+1) k xs (by simpa using h);exact⟨y,j+1,by simpa using h1,by simpa using h2,by rw[h3,show i+1+j=i+(j+1) by omega]⟩
  ·rename_i a;rw[if_neg a];obtain⟨y,j,h1,h2,h3⟩:=b (i+1) k xs h;exact⟨y,j+1,h1,by simpa using h2,by rw[h3,show i+1+j=i+(j+1) by omega]⟩
def evV(e:Ev)(q:Option Addr)(m c:Nat):Value:=.agg #[.int .i64 e.kind,.int .i64 e.day,.int .i64 e.land,.slice q m c,.int .i64 e.since]
theorem hands2095(Q:XOK X){h₀:LH}(Z:Kinds h₀.get){z0 z1:Addr}(O:K<7)(hm:MatAt h₀.get z0 f x k i)(N:h₀.get.cell? z1=some (.int .i64 (K:Int)))(hx:TreatyR h₀.get f x) :
  ∃ L,L.length=(x.events.filter (allB K k i)).length/\(∀ (j:Nat) xs,L[j]?=some xs->∃ e q m c,(x.events.filter (allB K k i))[j]?=some e/\xs=[evV e q m c]/\Sl IntE 1 h₀.get q m e.items) /\
   Hands X Tryz.prog (.func (.func 178) #[] #[.pointer (some z0),.pointer (some z1)]) h₀ L:=by
 have I:=hx.2;let R:Nat->Value->Prop:=fun j v=>∃ e a q m c,x.events[j]?=some e/\f.p=some a/\v=evV e q m c/\h₀.get.cell? ((a.add (j*5)).add 0)=some (.int .i64 e.kind)/\h₀.get.cell? ((a.add (j*5)).add 1)=some (.int .i64 e.day)/\h₀.get.cell? ((a.add (j*5)).add 2)=some (.int .i64 e.land)/\h₀.get.cell? ((a.add (j*5)).add 3)=some (.slice q m c)/\h₀.get.cell? ((a.add (j*5)).add 4)=some (.int .i64 e.since)/\Sl IntE 1 h₀.get q m e.items;have hR:∀ j e,x.events[j]?=some e->∃ v,R j v:=by
  intro j e he;obtain⟨a,U,B,o,t,⟨q,m,c,u,_,e5⟩,e6⟩:=I.2.2 j e he;exact⟨_,e,a,q,m,c,he,U,rfl,B,o,t,u,e6,e5⟩
 let V:Nat->Value:=fun j=>Classical.epsilon (R j);have P:∀ j e,x.events[j]?=some e->R j (V j):=fun j e he=>Classical.epsilon_spec (hR j e he);refine⟨handedE V (allB K k i) x.events 0,handedE_len _ _ _ _,?_,?_⟩
 ·intro j xs W;obtain⟨e,j',h1,h2,h3⟩:=handedE_get _ _ _ _ _ _ W;rw[Nat.zero_add]at h3;obtain⟨e',a,q,m,c,w,_,g3,_,_,_,_,_,g8⟩:=P j' e h2;rw[h2]at w;cases w;exact⟨e,q,m,c,h1,by rw[h3,g3],g8⟩
 ·intro y J E _ _ l h hle hJ;generalize hL:handedE V (allB K k i) x.events 0=L at l ⊢;refine Kq Q (by rfl) (?_:FW X Tryz.prog 178 #[y,.pointer (some z0),.pointer (some z1)] h _);refine w2095 Q ?_;have hn:=I.1;have hb:=I.2.1;have y6:=Qc hle.1 hm.f6;refine gL1 y6 ?_;refine Qq (fun mm vs h'=>h₀.le h'/\∃ (j cnt:Nat),vs=[.int .i64 j]/\j<=f.n/\mm=f.n-j/\J cnt h'/\cnt<=L.length/\L.drop cnt=handedE V (allB K k i) (x.events.drop j) j) (n:=f.n) ⟨hle,0,0,rfl,Nat.zero_le _,by omega,hJ,Nat.zero_le _,by rw[<- hL];rfl⟩ ?_;rintro Y mm vs h₁ S ⟨g,j,cnt,rfl,W,rfl,s,F,d⟩;refine yJ (fun B=>?_) (fun B=>?_)
  ·obtain⟨e,he⟩ : ∃ e,x.events[j]?=some e:=⟨x.events[j]'(by omega),List.getElem?_eq_getElem (by omega)⟩
   obtain⟨e',a,q,m,c,w,U,D,c0,c1,c2,c3,c4,G⟩:=P j e he;rw[he]at w;cases w;have d0:=Qc g.1 c0;have d1:=Qc g.1 c1;have d2:=Qc g.1 c2;have d3:=Qc g.1 c3;have d4:=Qc g.1 c4;have w1:=Qc g.1 N;have m1:=hm.le g.1;have w7:=m1.s7;have w8:=m1.s8;have kl:=(Z.le g.1).landAt' O;have j0:=(Z.le g.1).landAt O;rw[Jd he,handedE]at d;refine gZ ?_;have skip:allB K k i e=false->Y [.int .i64 (wrap .i64 ((j:Int)+1))] h₁:=by
    intro H;rw[if_neg (by rw[H];simp)]at d;refine S (f.n-(j+1)) _ _ (by omega) ⟨g,j+1,cnt,?_,by omega,rfl,s,F,d⟩;rw[Qj (by omega) (by omega)];rfl
   refine Jw (fun vs h'=>vs=[.bool (!landK K||(e.land==k))]/\h₁=h') ?_ ?_
   ·refine yI (fun o=>?_) (fun o=>?_)
    ·exact Qa ⟨by simp at o;rw[o];rfl,rfl⟩
    ·refine gZ ?_;exact Qa ⟨by simp at o;rw[o];rfl,rfl⟩
   rintro vs _ ⟨rfl,rfl⟩;refine yI (fun o=>?_) (fun o=>?_)
   ·refine Qt (fun t=>?_) (fun t=>?_)
    ·refine gZ ?_;refine t_pu (c100 (G.le IntE.grow g.1) i) ?_;refine yI (fun u=>?_) (fun u=>?_)
     ·have M:allB K k i e=true:=by unfold allB;rw[o,t,u];rfl
      rw[if_pos M]at d;have r:L[cnt]?=some [V j]:=by
       have:(L.drop cnt)[0]?=some [V j]:=by rw[d];rfl
       simpa using this
      have e0:cnt<L.length:=(List.getElem?_eq_some_iff.1 r).1;have z:=l cnt h₁ [V j] g r s;rw[D]at z;refine J2 z ?_;rintro b a0 ⟨A,⟨rfl,C⟩|⟨rfl,hE⟩⟩
      ·refine yF ?_;refine Qa (S (f.n-(j+1)) _ _ (by omega) ⟨A,j+1,cnt+1,?_,by omega,rfl,C,by omega,?_⟩)
       ·rw[Qj (by omega) (by omega)];rfl
       ·rw[<- List.drop_drop,d];rfl
      ·refine yT ?_;refine gZ ?_;exact Qe ⟨A,.inr hE⟩
     ·exact Qa (skip (by unfold allB;rw[u];simp))
    ·exact Qa (skip (by unfold allB;rw[t];simp))
   ·exact Qa (skip (by unfold allB;rw[o];rfl))
  ·refine gZ ?_;refine Qe ⟨g,.inl ?_⟩;rw[List.drop_eq_nil_of_le (by omega:x.events.length<=j),handedE]at d;have:cnt=L.length:=by
    have:=List.drop_eq_nil_iff.1 d;omega
   rw[<- this];exact s
theorem c2083(f:TC)(x:TF)(k i:Int)(K:Int):Gr Tryz.prog 136 #[matV f x k i,K] h fun r h'=>∃ z0 z1,r=.func (.func 178) #[] #[.pointer (some z0),.pointer (some z1)]/\MatAt h'.get z0 f x k i/\h'.get.cell? z1=some (.int .i64 K):=by
 refine w2083 Qn ?_;refine J1 fun r hr=>?_;refine J1 fun e a=>?_;have d:h.le _:=Qp (x:=(true,.cells #[.int .i64 x.items,.int .i64 x.lands,.int .i64 x.start,.int .i64 x.depend,.int .i64 x.refuse,.int .i64 x.turn,.slice f.p f.n f.c,.int .i64 k,.int .i64 i] 161 (0,0))) hr;have b:=Qp (x:=(true,.cells #[.int .i64 K] 56 (0,0))) a;refine Qe ⟨LH.le_trans d b,_,_,rfl,?_,Qs rfl⟩;refine MatAt.le b.1 ?_;constructor<;>(rw[Qh,Qh];exact Qs rfl)
theorem Yr{Q:Leaf->LH->Prop}{kk:Value->T}(d:XOK X)(g:Kinds h.get)(l:TreatyR h.get f x)(k i:Int)(K:Nat)(b:K<7)
 (hw:∀ v h' L,h.le h'->L.length=(x.events.filter (allB K k i)).length->(∀ (j:Nat) xs,L[j]?=some xs->∃ e q m c,(x.events.filter (allB K k i))[j]?=some e/\xs=[evV e q m c]/\Sl IntE 1 h'.get q m e.items)->Hands X Tryz.prog v h' L->(kk v).wp X Tryz.prog Q h') :
  (T.call false 136 #[matV f x k i,.int .i64 (K:Int)] kk).wp X Tryz.prog Q h:=by
 refine t_gr (c2083 f x k i K) ?_;rintro _ h₁ a ⟨z0,z1,rfl,hm,n⟩;obtain⟨L,h1,h2,h3⟩:=hands2095 d (g.le a.1) b hm n (l.le a.1);exact hw _ h₁ L a h1 h2 h3
def Jj(a:Int):List Int->Int
 | []=>a
 | y::l=>Jj (if y<a then y else a) l
theorem least_nil:least []=10000:=rfl
theorem Dx(y:Int)(l:List Int):least (y::l)=if y<least l then y else least l:=rfl
theorem K7:∀ (l:List Int) (a:Int),a<=10000->Jj a l=(if a<least l then a else least l)
 | [],a,h=>by
  rw[Jj,least_nil];split<;>omega
 | y::l,a,h=>by
  have hc:=G4 l;rw[Jj,K7 l _ (by split<;>omega),Dx];generalize least l=b at hc ⊢;by_cases c:y<a<;>by_cases d:y<b<;>by_cases e:a<b<;>by_cases f:a<y<;>simp[c,d,e,f]<;>omega
theorem Gu(l:List Int):Jj 10000 l=least l:=by
 rw[K7 l _ (Int.le_refl _)];have hc:=G4 l;split<;>omega
theorem fallsL_all(x:TF)(k i fr:Int):fallsL x i fr=((x.events.filter (allB 4 k i)).filter fun e=>decide (e.since<=x.start+x.depend)&&decide (fr<=e.day)).map (·.day):=by
 unfold fallsL;rw[List.filter_filter];congr 1;refine List.filter_congr fun e _=>?_;unfold Tr.early allB landK;have a:Nat.beq 4 4=true:=rfl;rw[a,Bool.not_true,Bool.not_false,Bool.true_or,Bool.true_and];show ((e.kind==4)&&decide (e.since<=x.start+x.depend)&&(e.items.contains i&&decide (fr<=e.day)))=(decide (e.since<=x.start+x.depend)&&decide (fr<=e.day)&&((e.kind==4)&&e.items.contains i));cases (e.kind==4)<;>cases decide (e.since<=x.start+x.depend)<;>cases e.items.contains i<;>cases decide (fr<=e.day)<;>rfl
theorem limitsL_all(x:TF)(k i fr:Int):limitsL x k i fr=((x.events.filter (allB 3 k i)).filter fun e=>decide (fr<=e.day)).map (·.day):=by
 unfold limitsL;rw[List.filter_filter];congr 1;refine List.filter_congr fun e _=>?_;rw[K2 (by decide)];rw[Bool.and_comm];rfl
theorem c2096(y:Kinds h.get)(z:TreatyR h.get f x)(a:IsI (x.start+x.depend))(k i fr:Int):Gr Tryz.prog 181 #[matV f x k i,fr] h fun r _=>r=.int .i64 (falls x i fr):=by
 refine w2096 Qn ?_;refine Yr Qn y z k i 4 (by decide) ?_;intro v h₁ L n g b t;rw[falls,fallsL_all x k i fr];generalize A:x.events.filter (allB 4 k i)=F at g b;refine Gs (LH.le_refl h₁) t (fun j vs h'=>∃ d:Int,vs=[.int .i64 d]/\d<=10000/\least ((F.filter fun e=>decide (e.since<=x.start+x.depend)&&decide (fr<=e.day)).map (·.day))=Jj d (((F.drop j).filter fun e=>decide (e.since<=x.start+x.depend)&&decide (fr<=e.day)).map (·.day)))
  ⟨10000,rfl,Int.le_refl _,(Gu _).symm⟩ ?_ ?_
 ·rintro vs h' hle ⟨d,rfl,_,hc⟩;rw[List.drop_eq_nil_of_le (by omega)]at hc;refine gZ ?_;exact Qe ⟨LH.le_trans n hle,by rw[hc];rfl⟩
 ·rintro j xs vs h' w hle ⟨d,rfl,o,hc⟩ Y l;obtain⟨e,q,m,c,he,rfl,u⟩:=b j xs w;rw[Jd he,List.filter_cons]at hc;unfold evV;refine gZ ?_;rw[Qj a.1 a.2];refine t_if (fun p=>?_) (fun p=>?_)
  ·refine t_if (fun s=>?_) (fun s=>?_)
   ·rw[if_pos (by simp;omega),List.map_cons,Jj]at hc;exact Jk hle (l _ _ hle ⟨_,rfl,by split<;>omega,hc⟩)
   ·rw[if_neg (by simp;omega)]at hc;exact Jk hle (l _ _ hle ⟨_,rfl,o,hc⟩)
  ·rw[if_neg (by simp;omega)]at hc;exact Jk hle (l _ _ hle ⟨_,rfl,o,hc⟩)
theorem c2094(u:Kinds h.get)(w:TreatyR h.get f x)(k i fr:Int):Gr Tryz.prog 177 #[matV f x k i,fr] h fun r _=>r=.int .i64 (limits x k i fr):=by
 refine w2094 Qn ?_;refine Yr Qn u w k i 3 (by decide) ?_;intro v h₁ L g b a o;rw[limits,limitsL_all x k i fr];generalize y:x.events.filter (allB 3 k i)=F at b a;refine Gs (LH.le_refl h₁) o (fun j vs h'=>∃ d:Int,vs=[.int .i64 d]/\d<=10000/\least ((F.filter fun e=>decide (fr<=e.day)).map (·.day))=Jj d (((F.drop j).filter fun e=>decide (fr<=e.day)).map (·.day)))
  ⟨10000,rfl,Int.le_refl _,(Gu _).symm⟩ ?_ ?_
 ·rintro vs h' hle ⟨d,rfl,_,hc⟩;rw[List.drop_eq_nil_of_le (by omega)]at hc;refine gZ ?_;exact Qe ⟨LH.le_trans g hle,by rw[hc];rfl⟩
 ·rintro j xs vs h' t hle ⟨d,rfl,p,hc⟩ Y l;obtain⟨e,q,m,c,he,rfl,s⟩:=a j xs t;rw[Jd he,List.filter_cons]at hc;unfold evV;refine yJ (fun n=>?_) (fun n=>?_)
  ·rw[if_pos (by simp;omega),List.map_cons,Jj]at hc;exact Jk hle (l _ _ hle ⟨_,rfl,by split<;>omega,hc⟩)
  ·rw[if_neg (by simp;omega)]at hc;exact Jk hle (l _ _ hle ⟨_,rfl,p,hc⟩)
end
end Go.Y.Tre
section
namespace Go.TM
variable {P:Program} {X:XP} {Q:Leaf->LH->Prop}
theorem Gd{α:Type}{Enc:α->List Value->Prop}{h h₀:LH}{K:Value->T}{ts:Array TypeId}{ty t el:TypeId}{s f:Nat}{z:Value}{parts:Array (Nat×Value)}{p:Option Addr}{n c:Nat}{l:List α}(x:α)(ws:List Value)(h0:ts[0]?=some t)(h1:ts[1]?=some t)(hu:P.underlying t=some (.slice el))
 (A:(P.info? el).map (fun i=>(i.size,i.bytes,i.zero))=some (s,f,some z))(u:z.cells.size=s)(hb:f<=1024)(B:1*s<=2^24/\1*s≠0)(C:Instr.fill (fun i=>some (i*s,s)) ((Array.range (1*s)).map (z.cells[·%z.cells.size]!)) parts.toList=some ws.toArray)
 (F:ws.length=s)(one:∀ v∈ws,isOne v=true)(G:n+1<=2^30)(g:Growing Enc el s h₀.get h.get p n c l)(hle:h₀.le h)(he:Enc x ws)
 (E:∀ q o h',h₀.le h'->(∀ r y,(∀ a,p=some a->a.block≠r)->h.get r=some y->h'.get r=some y)->Growing Enc el s h₀.get h'.get q (n+1) o (l++[x])->(K (.slice q (n+1) o)).wp X P Q h') :
  (T.sem false (Instr.buildSlice t 1 parts) fun v=>T.unS v fun a m I=>T.sem false (Builtin.append_ ts ty #[.slice p n c,.slice a m I]) K).wp X P Q h:=by
 refine Hf hu A B.1 B.2 C fun r hr=>?_;have e:h.le _:=Qp (x:=(true,.cells ws.toArray el (0,0))) hr;refine gG ?_;refine t_grow (h₀:=h₀) (x:=x) (ws:=ws) h0 h1 hu hu A u hb G (g.le e.1) (LH.le_trans hle e) he F ?_ one fun q o h' k d g'=>E q o h' k (fun b y hb H=>d b y hb (e.1 b y H)) g';intro j w D;rw[Qh,Nat.zero_add];exact Qs (by simpa using D)
end Go.TM
namespace Go.TM
variable {P:Program} {X:XP} {Q:Leaf->LH->Prop}
variable {h:LH}{k:Value->T}{t el:TypeId}{n s:Nat}{z:Value}
theorem Gz{b:Nat}{parts:Array (Nat×Value)}(ws:List Value)(hu:P.underlying t=some (.slice el))(d:(P.info? el).map (fun i=>(i.size,i.bytes,i.zero))=some (s,b,some z))(g:n*s<=2^24)(a:n*s≠0)
 (c:Instr.fill (fun i=>some (i*s,s)) ((Array.range (n*s)).map (z.cells[·%z.cells.size]!)) parts.toList=some ws.toArray)
 (f:∀ r h',h.le h'->h.get r=none->(∀ (j:Nat) w,ws[j]?=some w->h'.get.cell? (Addr.add ⟨r,0,none⟩ j)=some w)->(k (.slice (some ⟨r,0,none⟩) n n)).wp X P Q h'):(T.sem false (Instr.buildSlice t n parts) k).wp X P Q h :=
 Hf hu d g a c fun r hr=>f r _ (Qp hr) hr fun j w e=>by
  rw[Qh,Nat.zero_add];exact Qs (by simpa using e)
theorem t_growR{α:Type}{Enc:α->List Value->Prop}{h₀:LH}{ts:Array TypeId}{ty:TypeId}{b:Nat}{p:Option Addr}{c A r:Nat}{l:List α}(x:α)(ws:List Value)(h0:ts[0]?=some t)(h1:ts[1]?=some t)(hu:P.underlying t=some (.slice el))
 (m:(P.info? el).map (fun i=>(i.size,i.bytes,i.zero))=some (s,b,some z))(d:z.cells.size=s)(hb:b<=1024)(u:n+1<=2^30)(g:Growing Enc el s h₀.get h.get p n c l)(hle:h₀.le h)(he:Enc x ws)(q:ws.length=s)(hc:∀ (j:Nat) w,ws[j]?=some w->h.get.cell? (Addr.add ⟨r,0,none⟩ j)=some w)(one:∀ v∈ws,isOne v=true)
 (o:∀ f e h',h₀.le h'->(∀ r y,(∀ a,p=some a->a.block≠r)->h.get r=some y->h'.get r=some y)->Growing Enc el s h₀.get h'.get f (n+1) e (l++[x])->(k (.slice f (n+1) e)).wp X P Q h'):(T.sem false (Builtin.append_ ts ty #[.slice p n c,.slice (some ⟨r,0,none⟩) 1 A]) k).wp X P Q h :=
 t_grow (h₀:=h₀) (x:=x) (ws:=ws) h0 h1 hu hu m d hb u g hle he q hc one o
end Go.TM
namespace Go.TM
variable {P:Program} {X:XP} {Q:Leaf->LH->Prop}
variable {h:Cells}{r o:Nat}{cs:Array Value}{el:TypeId}{v:Value}
theorem setCell_updU{a:Nat×Nat}:(h.upd r (true,.cells cs el a)).setCell ⟨r,o,none⟩ v=h.upd r (true,.cells (cs.setIfInBounds o v) el a):=by
 funext k;unfold Cells.setCell Cells.upd;by_cases e:k=r
 ·subst e;simp
 ·simp[e]
theorem frozen_upd:(h.upd r (true,.cells cs el (0,0))).frozen? ⟨r,o,none⟩=false:=by
 unfold Cells.frozen?;simp[Cells.upd]
theorem t_storeU{h:LH}{a:Addr}{k:T}(b:a=⟨r,o,none⟩)(h1:isOne v=true)(d:o<cs.size)(c:k.wp X P Q { h with get:=h.get.upd r (true,.cells (cs.setIfInBounds o v) el (0,0)) }) :
  (T.store a v k).wp X P Q { h with get:=h.get.upd r (true,.cells cs el (0,0)) }:=by
 subst b;refine K6 (v₀:=cs[o]) h1 ⟨_,Qd _ _ _⟩ (Qs (by simp[d])) frozen_upd ?_;show k.wp X P Q { h with get:=(h.get.upd r (true,.cells cs el (0,0))).setCell ⟨r,o,none⟩ v };rw[setCell_updU];exact c
def BoolE(h:Cells)(a:Addr)(b:Bool):Prop:=h.cell? (a.add 0)=some (.bool b)
theorem BoolE.grow:Grow BoolE:=fun _ _ _ _ a h=>a _ _ h
end Go.TM
end
namespace Go.Y.Tre
section
open Go.TM.Tr
attribute [local irreducible] T.wp CV FWK
variable {h:LH}{f:TC}{x:TF}{k i a:Int}
theorem c2097(z:Kinds h.get)(A:TreatyR h.get f x){z0 z1:Addr}{d:Int}(hm:MatAt h.get z0 f x k i)(B:h.get.cell? z1=some (.int .i64 d))(fr:Int) :
  Gr Tryz.prog 182 #[fr,.pointer (some z0),.pointer (some z1)] h fun r _=>r=.bool (lifted x k i fr d):=by
 refine w2097 Qn ?_;obtain⟨f0,f1,f2,f3,f4,f5,f6,f7,f8⟩:=hm;refine gZ ?_;refine Yr Qn z A k i 2 (by decide) ?_;intro v h₁ L g p n t;have b:lifted x k i fr d=(x.events.filter (allB 2 k i)).any fun l=>decide (fr<=l.day/\l.day<=d):=by
  unfold Tr.lifted;rw[List.any_filter];refine congrArg (fun q=>x.events.any q) (funext fun e=>?_);rw[K2 (by decide)];rfl
 rw[b];generalize D:x.events.filter (allB 2 k i)=F at p n;have s:=Qc g.1 B;refine Gs (LH.le_refl h₁) t (fun j vs h'=>vs=[.bool false]/\(F.any fun l=>decide (fr<=l.day/\l.day<=d))=(F.drop j).any fun l=>decide (fr<=l.day/\l.day<=d)) ⟨rfl,rfl⟩ ?_ ?_
 ·rintro vs h' hle ⟨rfl,hc⟩;rw[List.drop_eq_nil_of_le (by omega)]at hc;refine gZ ?_;exact Qe ⟨LH.le_trans g hle,by rw[hc];rfl⟩
 ·rintro j xs vs h' y hle ⟨rfl,hc⟩ Y u;obtain⟨e,q,m,c,he,rfl,w⟩:=n j xs y;rw[Jd he,List.any_cons]at hc;have C:=Qc hle.1 s;unfold evV;refine gZ ?_;refine t_pu (c2052 _ _ _) ?_;refine yI (fun o=>?_) (fun o=>?_)
  ·refine t_retnE hle ?_;have a:decide (fr<=e.day/\e.day<=d)=true:=by simpa[inB] using o
   rw[a,Bool.true_or]at hc;refine gZ ?_;exact Qe ⟨LH.le_trans g hle,by rw[hc]⟩
  ·have a:decide (fr<=e.day/\e.day<=d)=false:=by simpa[inB] using o
   rw[a,Bool.false_or]at hc;exact Jk hle (u _ _ hle ⟨rfl,hc⟩)
def askCells(f:TC)(x:TF)(k i a:Int):List Value:=[.int .i64 x.items,.int .i64 x.lands,.int .i64 x.start,.int .i64 x.depend,.int .i64 x.refuse,.int .i64 x.turn,.slice f.p f.n f.c,.int .i64 k,.int .i64 i,.int .i64 a,.int .i64 (askEnd x k i a),.bool (fallen x k i a)]
def askV(f:TC)(x:TF)(k i a:Int):Value:=.agg #[.int .i64 x.items,.int .i64 x.lands,.int .i64 x.start,.int .i64 x.depend,.int .i64 x.refuse,.int .i64 x.turn,.slice f.p f.n f.c,.int .i64 k,.int .i64 i,.int .i64 a,.int .i64 (askEnd x k i a),.bool (fallen x k i a)]
def AskE(f:TC)(x:TF)(k i:Int)(h:Cells)(a:Addr)(d:Int):Prop:=∀ (j:Nat) w,(askCells f x k i d)[j]?=some w->h.cell? (a.add j)=some w
def AskEnc(f:TC)(x:TF)(k i:Int)(d:Int)(ws:List Value):Prop:=ws=askCells f x k i d
theorem AskE.grow:Grow (AskE f x k i):=fun _ _ _ _ b h j w a=>b _ _ (h j w a)
theorem AskEnc.len:∀ d ws,AskEnc f x k i d ws->ws.length=12:=by rintro d _ rfl;rfl
theorem AskEnc.e{h':Cells}:∀ a d ws,AskEnc f x k i d ws->(∀ (j:Nat) w,ws[j]?=some w->h'.cell? (a.add j)=some w)->AskE f x k i h' a d:=by
 rintro a d _ rfl hc;exact hc
theorem refused_any(x:TF)(k i a d:Int):refused x k i a d=(x.events.filter (allB 1 k i)).any fun r=>decide (a<=r.day/\r.day<=a+x.refuse/\r.day<=d)&&!lifted x k i r.day d:=by
 unfold Tr.refused;rw[List.any_filter];refine congrArg (fun q=>x.events.any q) (funext fun e=>?_);rw[K2 (by decide)];rfl
theorem in_min(n a b d:Int):inB n a (if b<d then b else d)=decide (a<=n/\n<=b/\n<=d):=by
 unfold inB;rw[Bool.eq_iff_iff];simp only[Bool.and_eq_true,decide_eq_true_eq];split<;>omega
theorem c2085(P:Kinds h.get)(Q:TreatyR h.get f x)(k i:Int)(O:IsI (a+x.refuse))(e:Int)(s:Bool)(d:Int) :
  Gr Tryz.prog 141 #[.agg #[.int .i64 x.items,.int .i64 x.lands,.int .i64 x.start,.int .i64 x.depend,.int .i64 x.refuse,.int .i64 x.turn,.slice f.p f.n f.c,k,i,a,e,.bool s],d] h fun r _=>r=.bool (refused x k i a d):=by
 refine w2085 Qn ?_;refine J1 fun r hr=>?_;refine J1 fun M H=>?_;have R:h.le _:=Qp (x:=(true,.cells #[.int .i64 x.items,.int .i64 x.lands,.int .i64 x.start,.int .i64 x.depend,.int .i64 x.refuse,.int .i64 x.turn,.slice f.p f.n f.c,.int .i64 k,.int .i64 i,.int .i64 a,.int .i64 e,.bool s] 166 (0,0))) hr;have z:=Qp (x:=(true,.cells #[.int .i64 d] 3 (0,0))) H;have hm:MatAt (h.get.upd r (true,.cells #[.int .i64 x.items,.int .i64 x.lands,.int .i64 x.start,.int .i64 x.depend,.int .i64 x.refuse,.int .i64 x.turn,.slice f.p f.n f.c,.int .i64 k,.int .i64 i,.int .i64 a,.int .i64 e,.bool s] 166 (0,0))) ⟨r,0,none⟩ f x k i:=by
  constructor<;>(rw[Qh,Qh];exact Qs rfl)
 have t:Cells.cell? (h.get.upd r (true,.cells #[.int .i64 x.items,.int .i64 x.lands,.int .i64 x.start,.int .i64 x.depend,.int .i64 x.refuse,.int .i64 x.turn,.slice f.p f.n f.c,.int .i64 k,.int .i64 i,.int .i64 a,.int .i64 e,.bool s] 166 (0,0))) (Addr.add ⟨r,0,none⟩ 9)=some (.int .i64 a):=by rw[Qh];exact Qs rfl
 have I:=Qs (h:=h.get.upd r (true,.cells #[.int .i64 x.items,.int .i64 x.lands,.int .i64 x.start,.int .i64 x.depend,.int .i64 x.refuse,.int .i64 x.turn,.slice f.p f.n f.c,.int .i64 k,.int .i64 i,.int .i64 a,.int .i64 e,.bool s] 166 (0,0))) (r:=M) (i:=0) (m:=true) (cs:=#[.int .i64 d]) (el:=3) (f:=(0,0)) (v:=.int .i64 d) rfl;have hm:=hm.le z.1;have t:=Qc z.1 t;have b:=LH.le_trans R z;generalize y:({ h with get:=(h.get.upd r (true,.cells #[.int .i64 x.items,.int .i64 x.lands,.int .i64 x.start,.int .i64 x.depend,.int .i64 x.refuse,.int .i64 x.turn,.slice f.p f.n f.c,.int .i64 k,.int .i64 i,.int .i64 a,.int .i64 e,.bool s] 166 (0,0))).upd M (true,.cells #[.int .i64 d] 3 (0,0)) }:LH)=h2 at b ⊢;have hm:MatAt h2.get ⟨r,0,none⟩ f x k i:=by rw[<- y];exact hm
 have t:h2.get.cell? (Addr.add ⟨r,0,none⟩ 9)=some (.int .i64 a):=by rw[<- y];exact t
 have I:h2.get.cell? ⟨M,0,none⟩=some (.int .i64 d):=by rw[<- y];exact I
 clear y R z;have E:=hm;obtain⟨f0,f1,f2,f3,f4,f5,f6,f7,f8⟩:=hm;refine gZ ?_;refine Yr Qn (P.le b.1) (Q.le b.1) k i 1 (by decide) ?_;intro v h₁ L g D u U;rw[refused_any];generalize X:x.events.filter (allB 1 k i)=F at D u;have G:=E.le g.1;have C:=Qc g.1 t;have J:=Qc g.1 I;refine Gs (LH.le_refl h₁) U (fun j vs h'=>vs=[.bool false]/\(F.any fun r=>decide (a<=r.day/\r.day<=a+x.refuse/\r.day<=d)&&!lifted x k i r.day d)=(F.drop j).any fun r=>decide (a<=r.day/\r.day<=a+x.refuse/\r.day<=d)&&!lifted x k i r.day d) ⟨rfl,rfl⟩ ?_ ?_
 ·rintro vs h' hle ⟨rfl,hc⟩;rw[List.drop_eq_nil_of_le (by omega)]at hc;refine gZ ?_;exact Qe ⟨LH.le_trans b (LH.le_trans g hle),by rw[hc];rfl⟩
 ·rintro j xs vs h' W hle ⟨rfl,hc⟩ Y N;obtain⟨ev,q,m,c,he,rfl,V⟩:=u j xs W;rw[Jd he,List.any_cons]at hc;have w:=G.le hle.1;have S:=Qc hle.1 C;have K:=Qc hle.1 J;have f44:h'.get.cell? (Addr.add (Addr.add (Addr.add ⟨r,0,none⟩ 0) 0) 4)=some (.int .i64 x.refuse):=by
   have:=w.f4;rwa[show Addr.add (Addr.add (⟨r,0,none⟩ : Addr) 0) 0=Addr.add ⟨r,0,none⟩ 0 by rw[Ga]]
  unfold evV;refine gZ ?_;rw[Qj O.1 O.2];refine t_pu (c2052 _ _ _) ?_;rw[in_min];refine yI (fun A=>?_) (fun A=>?_)
  ·rw[A,Bool.true_and]at hc;have l:=LH.le_trans g hle;refine J2 (Kq Qn (by rfl) (c2097 ((P.le b.1).le l.1) ((Q.le b.1).le l.1) w K ev.day)) ?_;rintro _ h5 ⟨o,rfl⟩;refine yI (fun B=>?_) (fun B=>?_)
   ·refine t_retnE (LH.le_trans hle o) ?_;refine gZ ?_;rw[B,Bool.true_or]at hc;exact Qe ⟨LH.le_trans b (LH.le_trans l o),by rw[hc]⟩
   ·rw[B,Bool.false_or]at hc;exact Jk (LH.le_trans hle o) (N _ _ (LH.le_trans hle o) ⟨rfl,hc⟩)
  ·rw[A,Bool.false_and,Bool.false_or]at hc;exact Jk hle (N _ _ hle ⟨rfl,hc⟩)
theorem c2137(j:Kinds h.get)(l:TreatyR h.get f x)(k i:Int)(g:IsI (a+x.refuse))(he:IsI (askEnd x k i a-1))(d:Int) :
  Gr Tryz.prog 232 #[askV f x k i a,d] h fun r _=>r=.tuple #[a,.bool (decide (a<=d/\d<askEnd x k i a)&&!refused x k i a d)]:=by
 refine w2137 Qn ?_;rw[Qj he.1 he.2];have c:inB d a (askEnd x k i a-1)=decide (a<=d/\d<askEnd x k i a):=by
  unfold inB;rw[Bool.eq_iff_iff];simp only[Bool.and_eq_true,decide_eq_true_eq];omega
 refine t_pu (c2052 _ _ _) ?_;rw[c];refine yI (fun b=>?_) (fun b=>?_)
 ·refine t_gr (c2085 j l k i g _ _ d) ?_;rintro _ h1 e rfl;refine gZ ?_;exact Qe ⟨e,by rw[b,Bool.true_and]⟩
 ·refine gZ ?_;refine Hg ?_ ?_
  ·refine gZ ?_;exact Qe ⟨LH.le_refl _,by rw[b,Bool.false_and]⟩
  ·refine gZ ?_;exact Qe ⟨LH.le_refl _,by rw[b,Bool.false_and]⟩
theorem askDays_all(x:TF)(k i:Int):askDays x k i=((x.events.filter (allB 0 k i)).filter fun e=>decide (e.day<falls x i 0)).map (·.day):=by
 unfold askDays;rw[List.filter_filter];congr 1;refine List.filter_congr fun e _=>?_;rw[K2 (by decide),Bool.and_comm];rfl
theorem c2084(D:Kinds h.get)(E:TreatyR h.get f x)(l:IsI (x.start+x.depend))(hlen:x.events.length<=1000)(k i:Int) :
  Gr Tryz.prog 140 #[matV f x k i] h fun r h'=>∃ p n c,r=.slice p n c/\Sl (AskE f x k i) 12 h'.get p n (askDays x k i):=by
 refine w2084 Qn ?_;refine Yr Qn D E k i 0 (by decide) ?_;intro v h₁ L A u y M;rw[askDays_all];have G:(x.events.filter (allB 0 k i)).length<=1000:=Nat.le_trans (List.length_filter_le _ _) hlen;generalize S:x.events.filter (allB 0 k i)=F at u y G;refine Gs (LH.le_refl h₁) M (fun j vs h'=>∃ (p:Option Addr) (n c:Nat),vs=[.slice p n c]/\Growing (AskEnc f x k i) 166 12 h₁.get h'.get p n c (((F.take j).filter fun e=>decide (e.day<falls x i 0)).map (·.day)))
  ⟨none,0,0,rfl,Growing.nil⟩ ?_ ?_
 ·rintro vs h' hle ⟨p,n,c,rfl,g⟩;rw[u,List.take_of_length_le (Nat.le_refl _)]at g;refine gZ ?_;refine Qe ⟨LH.le_trans A hle,p,n,c,rfl,g.sl AskEnc.len (by omega) AskEnc.e ?_⟩;rw[List.length_map];have:=List.length_filter_le (fun e:Ev=>decide (e.day<falls x i 0)) F;omega
 ·rintro j xs vs h' O hle ⟨p,n,c,rfl,g⟩ Y H;obtain⟨e,q,m,cc,he,rfl,N⟩:=y j xs O;have b:F.take (j+1)=F.take j++[e]:=by rw[List.take_add_one,he];rfl
  have s:=LH.le_trans A hle;unfold evV;refine gZ ?_;refine t_gr (c2096 (D.le s.1) (E.le s.1) l k i 0) ?_;rintro _ h3 a rfl;refine yJ (fun J=>?_) (fun J=>?_)
  ·refine Jk (LH.le_trans hle a) (H _ _ (LH.le_trans hle a) ⟨p,n,c,rfl,?_⟩);rw[b,List.filter_append,List.filter_cons,if_neg (by simp;omega)];simpa using g.le a.1
  have d:=LH.le_trans s a;refine t_gr (c2096 (D.le d.1) (E.le d.1) l k i e.day) ?_;rintro _ Q t rfl;refine gZ ?_;have o:=LH.le_trans d t;refine t_gr (c2094 (D.le o.1) (E.le o.1) k i e.day) ?_;rintro _ h5 B rfl;refine gZ ?_;have z:=LH.le_trans hle (LH.le_trans a (LH.le_trans t B));have U:n<=1000:=by
   rw[g.count AskEnc.len (by omega),List.length_map];have h1:=List.length_filter_le (fun e:Ev=>decide (e.day<falls x i 0)) (F.take j);have h2:(F.take j).length<=1000:=by rw[List.length_take];omega
   omega
  refine Gd e.day (askCells f x k i e.day) rfl rfl undAsks infAsk rfl (by omega) (by decide) (by kernel_rfl) rfl ?_ (by omega) (g.le (LH.le_trans a (LH.le_trans t B)).1) z rfl ?_
  ·intro w hw;simp only[askCells,List.mem_cons,List.not_mem_nil,or_false]at hw;rcases hw with rfl|rfl|rfl|rfl|rfl|rfl|rfl|rfl|rfl|rfl|rfl|rfl<;>rfl
  ·intro P I R C _ K;refine gZ ?_;refine Jk C (H _ _ C ⟨P,_,I,rfl,?_⟩);rw[b,List.filter_append,List.filter_cons,if_pos (by simp;omega),List.map_append];exact K
end
section
open Go.TM.Tr
attribute [local irreducible] T.wp CV FWK
structure Right(x:TF):Prop where
 ok:Ok x
 start:0<=x.start/\x.start<=9999
 depend:0<=x.depend/\x.depend<=9999
 refuse:0<=x.refuse/\x.refuse<=9999
 turn:0<=x.turn/\x.turn<=9999
 many:x.events.length<=10
variable {x:TF}{k i a d:Int}{l:List Int}
theorem Right.of(h:checkT x=0):Right x:=by
 have:=Jx h;exact⟨Yo h,this.2.2.1,this.2.2.2.1,this.2.2.2.2.1,this.2.2.2.2.2.1,this.2.2.2.2.2.2⟩
theorem Right.sum(r:Right x):IsI (x.start+x.depend):=by have:=r.start;have:=r.depend;unfold IsI;omega
theorem Right.askDay(r:Right x)(h:a∈askDays x k i):0<=a/\a<=9999:=r.ok.has (Ym.1 h).1
theorem falls_low(v:Ok x)(i f:Int):0<=falls x i f/\falls x i f<=10000:=by
 refine⟨?_,G4 _⟩;rcases Zx (l:=fallsL x i f) with h|h
 ·unfold falls;omega
 ·obtain⟨e,h1,_,_,a⟩:=(Kb.1 h).1;have:=v e h1;unfold falls;omega
theorem limits_low(v:Ok x)(k i f:Int):0<=limits x k i f/\limits x k i f<=10000:=by
 refine⟨?_,G4 _⟩;rcases Zx (l:=limitsL x k i f) with h|h
 ·unfold limits;omega
 ·have:=v.has (Ku.1 h).1;unfold limits;omega
theorem askEnd_low(v:Ok x)(k i a:Int):0<=askEnd x k i a/\askEnd x k i a<=10000:=by
 have h1:=falls_low v i a;have h2:=limits_low v k i a;unfold askEnd;split<;>omega
theorem Df(x:TF)(k i:Int):(askDays x k i).length<=x.events.length:=by
 unfold askDays;rw[List.length_map];exact List.length_filter_le _ _
def bestI:Option Int->List Int->Option Int
 | o,[]=>o
 | none,a::l=>bestI (some a) l
 | some b,a::l=>bestI (some (if a<b then a else b)) l
theorem bestI_some:∀ (l:List Int) (b:Int),bestI (some b) l=some (Jj b l)
 | [],b=>rfl
 | a::l,b=>by rw[bestI,Jj,bestI_some l]
theorem bestI_least(h:∀ v∈l,v<10000):leastOr l=match bestI none l with|none=>-1|some n=>n:=by
 cases l with
 | nil=>rfl
 | cons a l =>
  rw[bestI,bestI_some];have b:=h a (by simp);simp only;rw[K7 l a (by omega),leastOr,if_neg (by simp),Dx]
def zeroAsk:List Value:=[.int .i64 0,.int .i64 0,.int .i64 0,.int .i64 0,.int .i64 0,.int .i64 0,.slice none 0 0,.int .i64 0,.int .i64 0,.int .i64 0,.int .i64 0,.bool false]
def Kf(f:TC)(x:TF)(k i:Int):Option Int->List Value
 | none=>zeroAsk
 | some a=>askCells f x k i a
theorem goodBy_step:(a::l).filter (goodBy x k i d)=if goodBy x k i d a=true then a::l.filter (goodBy x k i d) else l.filter (goodBy x k i d):=List.filter_cons
def turnO(x:TF)(k i d:Int):Option Int:=bestI none (turnedL x k i d)
theorem turnO_turned(v:Ok x)(k i d:Int):turned x k i d=match turnO x k i d with|none=>-1|some n=>n :=
 bestI_least fun n a=>(v.turnedL n a).2
theorem Do(v:Ok x){n:Int}(h:turnO x k i d=some n):0<=n/\n=turned x k i d:=by
 have h1:=turnO_turned v k i d;rw[h]at h1;simp only at h1;refine⟨?_,h1.symm⟩;rcases Wb v k i d with⟨h2,h3⟩|⟨h2,_⟩
 ·unfold turnO at h;rw[h3]at h;cases h
 ·have:=(v.turnedL _ h2).1;omega
theorem turnO_none(v:Ok x):turnO x k i d=none↔¬ 0<=turned x k i d:=by
 have h1:=turnO_turned v k i d;cases h:turnO x k i d with
 | none =>
  rw[h]at h1;simp only at h1;constructor
  ·intro _;omega
  ·intro _;rfl
 | some n =>
  have:=Do v h;constructor
  ·intro e;cases e
  ·intro h2;omega
theorem c2064{h:LH}(I:Kinds h.get){f:TC}(K:TreatyR h.get f x)(rt:Right x)(k i d:Int) :
    Gr Tryz.prog 87 #[matV f x k i,d] h fun r _=>r=.tuple #[.agg (Kf f x k i (turnO x k i d)).toArray,.bool (turnO x k i d).isSome]:=by
  refine w2064 Qn ?_;refine t_gr (c2084 I K rt.sum (Nat.le_trans rt.many (by omega)) k i) ?_;rintro _ h₁ s ⟨p,n,c,rfl,C⟩;refine gZ ?_;have hn:=C.1;have hb:=C.2.1;have hlen:=Df x k i;have B:=rt.many;refine Qq (fun L vs h'=>h₁.le h'/\∃ (j:Nat) (o:Option Int),vs=.bool o.isSome::.int .i64 j::Kf f x k i o/\j<=n/\L=n-j/\turnO x k i d=bestI o (((askDays x k i).drop j).filter (goodBy x k i d)))
    ⟨LH.le_refl _,0,none,rfl,Nat.zero_le _,rfl,rfl⟩ ?_
  rintro Y L vs h2 P ⟨e,j,o,rfl,hj,rfl,hc⟩;have next:∀ h' (t:Option Int),h₁.le h'->j+1<=n->turnO x k i d=bestI t (((askDays x k i).drop (j+1)).filter (goodBy x k i d))->Y (.bool t.isSome::.int .i64 (wrap .i64 ((j:Int)+1))::Kf f x k i t) h':=by
    intro h' t g S z;refine P (n-(j+1)) _ _ (by omega) ⟨g,j+1,t,?_,by omega,rfl,z⟩;rw[Qj (by omega) (by omega)];rfl
  rcases o with _|q
  all_goals
    simp only[Option.isSome,Kf,zeroAsk,askCells]at next ⊢
    refine yJ (fun M=>?_) (fun M=>?_)
    · obtain⟨a,ad,F,Q,he⟩:=(C.le AskE.grow e.1).at (i:=j) (by omega)
      have g0:=he 0 _ rfl;have U:=he 1 _ rfl;have V:=he 2 _ rfl;have W:=he 3 _ rfl;have X:=he 4 _ rfl;have Z:=he 5 _ rfl;have g6:=he 6 _ rfl;have g7:=he 7 _ rfl;have g8:=he 8 _ rfl;have g9:=he 9 _ rfl;have N:=he 10 _ rfl;have O:=he 11 _ rfl;have G:=rt.askDay (List.mem_of_getElem? F);have H:=askEnd_low rt.ok k i a;have D:=rt.turn;have J:=rt.refuse;have m:=LH.le_trans s e;rw[Jd F,goodBy_step]at hc;have l:goodBy x k i d a=(fallen x k i a&&(decide (askEnd x k i a<=d/\d<=askEnd x k i a+x.turn)&&!refused x k i a (askEnd x k i a-1))):=rfl;have bad:goodBy x k i d a=false->∀ h',h₁.le h'->Y _ h':=fun hb h' g=>next h' _ g (by omega) (by rw[if_neg (by rw[hb];simp)]at hc;exact hc)
      refine yI (fun u=>?_) (fun u=>?_)
      · rw[Qj (by omega) (by omega)]
        refine t_pu (c2052 _ _ _) ?_;have A:inB d (askEnd x k i a) (askEnd x k i a+x.turn)=decide (askEnd x k i a<=d/\d<=askEnd x k i a+x.turn):=by
          unfold inB;rw[Bool.eq_iff_iff];simp only[Bool.and_eq_true,decide_eq_true_eq]
        rw[A];refine yI (fun v=>?_) (fun v=>?_)
        · rw[Qj (by omega) (by omega)]
          refine t_gr (c2085 (I.le m.1) (K.le m.1) k i (a:=a) (by unfold IsI;omega) _ _ _) ?_;rintro _ h3 E rfl;refine gZ ?_;have b:=LH.le_trans e E;refine Qt (fun w=>?_) (fun w=>?_)
          · have R:goodBy x k i d a=true:=by rw[l,u,v,w];rfl
            rw[if_pos R]at hc
            first
              | (refine yT ?_
                 exact Qa (next h3 (some a) b (by omega) hc))
              | (refine yF ?_
                 refine t_if (fun y=>?_) (fun y=>?_)
                 · exact Qa (next h3 (some a) b (by omega) (by rw[hc,bestI,if_pos y]))
                 · exact Qa (next h3 (some q) b (by omega) (by rw[hc,bestI,if_neg y])))
          · exact Qa (bad (by rw[l,w];simp) h3 b)
        · exact Qa (bad (by rw[l,v];simp) h2 e)
      · exact Qa (bad (by rw[l,u];simp) h2 e)
    · refine gZ ?_
      rw[List.drop_eq_nil_of_le (by omega)]at hc;refine Qe ⟨LH.le_trans s e,?_⟩;rw[hc];rfl
end
section
open Go.TM.Tr
variable {v:Value}{d k i:Int}{H:Cells}{X:XP}{h:LH}{f:TC}{x:TF}{l:List Ev}{p:Option Addr}
theorem via_ask_eq{A : Next -> Cells -> Prop}{E : Halt -> Cells -> Prop} : Qi Tryz.prog (do let d <- Deferred.ofValue (.func (.func 232) #[] #[]) #[v, .int .i64 d]; invoke d.target d.args) A E H = Qi Tryz.prog (do let d <- Deferred.ofValue (.func (.method "touchmark/treaty.on") #[.iface 166 v] #[]) #[.int .i64 d]; invoke d.target d.args) A E H := by
 kernel_rfl
theorem via_ask{Q : Value -> LH -> Prop}(c : CV X Tryz.prog (.func (.func 232) #[] #[]) #[v, .int .i64 d] h Q) : CV X Tryz.prog (.func (.method "touchmark/treaty.on") #[.iface 166 v] #[]) #[.int .i64 d] h Q := by
 intro main R hR fr cs hk;exact via_ask_eq.mp (c main R hR fr cs hk)
theorem via_turn_eq{A : Next -> Cells -> Prop}{E : Halt -> Cells -> Prop} : Qi Tryz.prog (do let d <- Deferred.ofValue (.func (.func 233) #[] #[]) #[v, .int .i64 d]; invoke d.target d.args) A E H = Qi Tryz.prog (do let d <- Deferred.ofValue (.func (.method "touchmark/treaty.on") #[.iface 274 v] #[]) #[.int .i64 d]; invoke d.target d.args) A E H := by
 kernel_rfl
theorem via_turn{Q : Value -> LH -> Prop}(c : CV X Tryz.prog (.func (.func 233) #[] #[]) #[v, .int .i64 d] h Q) : CV X Tryz.prog (.func (.method "touchmark/treaty.on") #[.iface 274 v] #[]) #[.int .i64 d] h Q := by
 intro main R hR fr cs hk;exact via_turn_eq.mp (c main R hR fr cs hk)
attribute [local irreducible] T.wp CV FWK
inductive Title where
 | ask (a:Int)
 | turn (a b:Int)
def turnV(f:TC)(x:TF)(k i a b:Int):Value:=.agg #[.int .i64 x.items,.int .i64 x.lands,.int .i64 x.start,.int .i64 x.depend,.int .i64 x.refuse,.int .i64 x.turn,.slice f.p f.n f.c,.int .i64 k,.int .i64 i,.int .i64 a,.int .i64 (askEnd x k i a),.bool (fallen x k i a),.int .i64 b,.int .i64 (limits x k i b)]
def titleV(f:TC)(x:TF)(k i:Int):Title->Value
 | .ask a=>.iface 166 (askV f x k i a)
 | .turn a b=>.iface 274 (turnV f x k i a b)
def Zu:Title->Int
 | .ask a=>a
 | .turn a _=>a
def titleOn(x:TF)(k i d:Int):Title->Bool
 | .ask a=>decide (a<=d/\d<askEnd x k i a)&&!refused x k i a d
 | .turn _ b=>decide (b<=d/\d<limits x k i b)
def turnsL(x:TF)(k i:Int)(l:List Ev):List Title:=(l.filter fun e=>decide (0<=turned x k i e.day)).map fun e=>.turn (turned x k i e.day) e.day
def titlesL(x:TF)(k i:Int):List Title:=(askDays x k i).map .ask++turnsL x k i (x.events.filter (allB 5 k i))
theorem titles_held(x:TF)(k i d:Int):((titlesL x k i).filter (titleOn x k i d)).map Zu=held x k i d:=by
 unfold titlesL turnsL held askHeld turnHeld;rw[List.filter_append,List.map_append];congr 1
 ·rw[List.filter_map,List.map_map];have:Zu∘Title.ask=id:=rfl;rw[this,List.map_id];rfl
 ·rw[List.filter_map,List.map_map,List.filter_filter,List.filter_filter];congr 1;refine List.filter_congr fun e _=>?_;rw[K2 (by decide)];show (decide (e.day<=d/\d<limits x k i e.day)&&decide (0<=turned x k i e.day)&&about e 5 k i)=_;cases about e 5 k i<;>cases decide (0<=turned x k i e.day)<;>cases decide (e.day<=d/\d<limits x k i e.day)<;>rfl
def TitleE(f:TC)(x:TF)(k i:Int)(h:Cells)(a:Addr)(t:Title):Prop:=h.cell? (a.add 0)=some (titleV f x k i t)
def TitleEnc(f:TC)(x:TF)(k i:Int)(t:Title)(ws:List Value):Prop:=ws=[titleV f x k i t]
theorem TitleE.grow:Grow (TitleE f x k i):=fun _ _ _ _ a h=>a _ _ h
theorem TitleEnc.len:∀ d ws,TitleEnc f x k i d ws->ws.length=1:=by rintro d _ rfl;rfl
theorem TitleEnc.e{h':Cells}:∀ a d ws,TitleEnc f x k i d ws->(∀ (j:Nat) w,ws[j]?=some w->h'.cell? (a.add j)=some w)->TitleE f x k i h' a d:=by
 rintro a d _ rfl hc;exact hc 0 _ rfl
theorem titleV_one(f:TC)(x:TF)(k i:Int)(t:Title):isOne (titleV f x k i t)=true:=by cases t<;>rfl
theorem c2138(f:TC)(x:TF)(v:Ok x)(k i a b d:Int):Pu Tryz.prog 233 #[turnV f x k i a b,d] h (.tuple #[a,.bool (decide (b<=d/\d<limits x k i b))]):=by
 refine w2138 Qn ?_;have e:=limits_low v k i b;rw[Qj (by omega) (by omega)];have c:inB d b (limits x k i b-1)=decide (b<=d/\d<limits x k i b):=by
  unfold inB;rw[Bool.eq_iff_iff];simp only[Bool.and_eq_true,decide_eq_true_eq];omega
 refine t_pu (c2052 _ _ _) ?_;rw[c];refine gZ ?_;exact Qe ⟨rfl,rfl⟩
theorem titles_ask{t:Title}(h:t∈titlesL x k i):(∃ a,t=.ask a/\a∈askDays x k i)\/∃ e∈x.events,t=.turn (turned x k i e.day) e.day/\0<=turned x k i e.day:=by
 unfold titlesL turnsL at h;rcases List.mem_append.1 h with h|h
 ·obtain⟨a,b,rfl⟩:=List.mem_map.1 h;exact .inl ⟨a,rfl,b⟩
 ·obtain⟨e,he,rfl⟩:=List.mem_map.1 h;have h1:=List.mem_filter.1 he;exact .inr ⟨e,(List.mem_filter.1 h1.1).1,rfl,by simpa using h1.2⟩
theorem titles_len(x:TF)(k i:Int):(titlesL x k i).length<=2*x.events.length:=by
 unfold titlesL turnsL;rw[List.length_append,List.length_map,List.length_map];have h1:=Df x k i;have h2:=List.length_filter_le (fun e:Ev=>decide (0<=turned x k i e.day)) (x.events.filter (allB 5 k i));have h3:=List.length_filter_le (allB 5 k i) x.events;omega
theorem cv_title(hk:Kinds h.get)(hx:TreatyR h.get f x)(rt:Right x)(k i d:Int){t:Title}(ht:t∈titlesL x k i) :
  CV X0 Tryz.prog (.func (.method "touchmark/treaty.on") #[titleV f x k i t] #[]) #[.int .i64 d] h fun r h' => h.le h' /\ r = .tuple #[.int .i64 (Zu t), .bool (titleOn x k i d t)] := by
 rcases titles_ask ht with⟨a,rfl,ha⟩|⟨e,_,rfl,_⟩
 ·refine via_ask (Kq Qn (hargs:=#[askV f x k i a,.int .i64 d]) (by rfl) ?_);have h1:=rt.askDay ha;have h2:=rt.refuse;have h3:=askEnd_low rt.ok k i a;exact c2137 hk hx k i (by unfold IsI;omega) (by unfold IsI;omega) d
 ·refine via_turn (Kq Qn (hargs:=#[turnV f x k i (turned x k i e.day) e.day,.int .i64 d]) (by rfl) ?_);exact pu_gr (c2138 f x rt.ok k i _ _ d)
theorem turns_step{e:Ev}(h:0<=turned x k i e.day):turnsL x k i (l++[e])=turnsL x k i l++[.turn (turned x k i e.day) e.day]:=by
 unfold turnsL;rw[List.filter_append,List.map_append,List.filter_cons,if_pos (by simpa using h)];rfl
theorem turns_skip{e:Ev}(h:¬ 0<=turned x k i e.day):turnsL x k i (l++[e])=turnsL x k i l:=by
 unfold turnsL;rw[List.filter_append,List.map_append,List.filter_cons,if_neg (by simpa using h)];simp
def butOf(h:Cells):Option Addr->Cells
 | none=>h
 | some a=>fun r=>if r=a.block then none else h r
def onlyOf(h:Cells):Option Addr->Cells
 | none=>fun _=>none
 | some a=>fun r=>if r=a.block then h r else none
theorem but_only(h:Cells)(p:Option Addr):h=(butOf h p).add (onlyOf h p)/\Disj (butOf h p) (onlyOf h p):=by
 cases p with
 | none=>exact⟨by funext r;unfold butOf onlyOf Cells.add;simp only;cases h r<;>rfl,fun r=>.inr rfl⟩
 | some a =>
  refine⟨?_,fun r=>?_⟩
  ·funext r;unfold butOf onlyOf Cells.add;by_cases e:r=a.block
   ·simp[e]
   ·simp[e];cases h r<;>rfl
  ·unfold butOf onlyOf;by_cases e:r=a.block
   ·simp[e]
   ·simp[e]
theorem but_le{h₁ h:Cells}(c:h₁.le h)(d:NewIn h₁ p):h₁.le (butOf h p):=by
 intro r x hr;cases p with
 | none=>exact c r x hr
 | some a =>
  unfold butOf;have b:r≠a.block:=by
   rintro rfl;have:=d a rfl;rw[this]at hr;cases hr
  simp[b];exact c r x hr
theorem Growing.over{α:Type}{Enc:α->List Value->Prop}{el:TypeId}{k:Nat}{h₀ h hb:Cells}{n c:Nat}{l:List α}(g:Growing Enc el k h₀ h p n c l)(d:Disj hb (onlyOf h p)):Growing Enc el k hb (hb.add (onlyOf h p)) p n c l:=by
 obtain⟨vs,⟨h1,h2⟩,h3⟩:=g.row;rcases h2 with h2|⟨r,cs,rfl,hr,f⟩
 ·exact⟨⟨vs,⟨h1,.inl h2⟩,h3⟩,fun a b=>by rw[h2.1]at b;cases b⟩
 ·have e:onlyOf h (some ⟨r,0,none⟩) r=some (true,.cells cs el (0,0)):=by unfold onlyOf;simp[hr]
  refine⟨⟨vs,⟨h1,.inr ⟨r,cs,rfl,Jg d e,f⟩⟩,h3⟩,fun a b=>?_⟩;cases b;rcases d r with h5|h5
  ·exact h5
  ·rw[e]at h5;cases h5
theorem t_allF{Q:Leaf->LH->Prop}{hb:LH}{kq:Cells}{kk:Value->T}(g:XOK X)(n:h=hb.add kq)(d:Disj hb.get kq)(o:Kinds hb.get)(p:TreatyR hb.get f x)(k i:Int)(K:Nat)(l:K<7)
 (hw:∀ v a L,hb.le a->Disj a.get kq->L.length=(x.events.filter (allB K k i)).length->(∀ (j:Nat) xs,L[j]?=some xs->∃ e q m c,(x.events.filter (allB K k i))[j]?=some e/\xs=[evV e q m c]/\Sl IntE 1 a.get q m e.items)->Hands X Tryz.prog v a L->(kk v).wp X Tryz.prog Q (a.add kq)) :
  (T.call false 136 #[matV f x k i,.int .i64 (K:Int)] kk).wp X Tryz.prog Q h:=by
 subst n;refine Qz (FW.frame g (Ko (c2083 (h:=hb) f x k i K)) d) ?_;rintro _ _ ⟨h',d',rfl,b,z0,z1,rfl,hm,r⟩;obtain⟨L,h1,h2,h3⟩:=hands2095 g (o.le b.1) l hm r (p.le b.1);exact hw _ h' L b d' h1 h2 h3
theorem c2082(K:Kinds h.get)(M:TreatyR h.get f x)(rt:Right x)(k i:Int) :
  Gr Tryz.prog 135 #[matV f x k i] h fun r h'=>∃ p n c,r=.slice p n c/\Sl (TitleE f x k i) 1 h'.get p n (titlesL x k i):=by
 refine w2082 Qn ?_;refine t_gr (c2084 K M rt.sum (Nat.le_trans rt.many (by omega)) k i) ?_;rintro _ h₁ z ⟨p,n,c,rfl,X⟩;refine gZ ?_;have hn:=X.1;have hb:=X.2.1;have hlen:=Df x k i;have U:=rt.many;have Z:=titles_len x k i;refine Qq (fun mm vs h'=>h₁.le h'/\∃ (j:Nat) (q:Option Addr) (m cc:Nat),vs=[.int .i64 j,.slice q m cc]/\j<=n/\mm=n-j/\Growing (TitleEnc f x k i) 227 1 h₁.get h'.get q m cc (((askDays x k i).take j).map .ask))
  ⟨LH.le_refl _,0,none,0,0,rfl,Nat.zero_le _,rfl,Growing.nil⟩ ?_
 rintro Y mm vs h2 hY ⟨l,j,q,m,cc,rfl,hj,rfl,g⟩;refine yJ (fun e1=>?_) (fun e1=>?_)
 ·obtain⟨a,ad,ha,k0,he⟩:=(X.le AskE.grow l.1).at (i:=j) (by omega);have g0:=he 0 _ rfl;have g1:=he 1 _ rfl;have g2:=he 2 _ rfl;have g3:=he 3 _ rfl;have g4:=he 4 _ rfl;have g5:=he 5 _ rfl;have g6:=he 6 _ rfl;have g7:=he 7 _ rfl;have g8:=he 8 _ rfl;have g9:=he 9 _ rfl;have e0:=he 10 _ rfl;have j0:=he 11 _ rfl;have hm:m<=100:=by
   rw[g.count TitleEnc.len (by omega),List.length_map,List.length_take];omega
  refine gZ ?_;refine Gd (Title.ask a) [titleV f x k i (.ask a)] rfl rfl Uu infTitle rfl (by omega) (by decide) (by kernel_rfl) rfl (by simp[titleV_one]) (by omega) g l rfl ?_;intro p' N h3 A _ O;refine gZ ?_;refine Qa (hY (n-(j+1)) _ _ (by omega) ⟨A,j+1,p',m+1,N,?_,by omega,rfl,?_⟩)
  ·rw[Qj (by omega) (by omega)];rfl
  ·rw[List.take_add_one,ha,List.map_append];exact O
 ·refine gZ ?_;have S:j=(askDays x k i).length:=by omega
  subst S;rw[List.take_of_length_le (Nat.le_refl _)]at g;have G:=but_only h2.get q;have b:h₁.get.le (butOf h2.get q):=but_le l.1 g.new;refine t_allF (hb:={ h2 with get:=butOf h2.get q }) (kq:=onlyOf h2.get q) Qn (by unfold LH.add;simp only;rw[<- G.1]) G.2 ((K.le z.1).le b) ((M.le z.1).le b) k i 5 (by decide) ?_;intro v h3 L d d3 B C hH;have A:h₁.le h3:=⟨Cells.le_trans b d.1,d.2.1.trans l.2.1,d.2.2.1.trans l.2.2.1,d.2.2.2.trans l.2.2.2⟩
  have w:=LH.le_trans z A;have P:=List.length_filter_le (allB 5 k i) x.events;have u:titlesL x k i=(askDays x k i).map .ask++turnsL x k i (x.events.filter (allB 5 k i)):=rfl;rw[u];generalize hF:x.events.filter (allB 5 k i)=F at B C P;have a0:h3.le (h3.add (onlyOf h2.get q)):=⟨Kp _ _,rfl,rfl,rfl⟩
  refine Gs a0 hH (fun j vs h'=>∃ (q:Option Addr) (m cc:Nat),vs=[.slice q m cc]/\Growing (TitleEnc f x k i) 227 1 h3.get h'.get q m cc ((askDays x k i).map .ask++turnsL x k i (F.take j)))
   ⟨q,m,cc,rfl,by simpa[turnsL,LH.add] using Growing.over g d3⟩ ?_ ?_
  ·rintro vs h' hle ⟨q,m,cc,rfl,g⟩;rw[B,List.take_of_length_le (Nat.le_refl _)]at g;refine gZ ?_;refine Qe ⟨LH.le_trans w hle,q,m,cc,rfl,g.sl TitleEnc.len (by omega) TitleEnc.e ?_⟩;rw[u,hF]at Z;omega
  ·rintro j xs vs h' R hle ⟨q,m,cc,rfl,g⟩ Y2 D;obtain⟨e,qe,me,ce,he,rfl,l0⟩:=C j xs R;have s:F.take (j+1)=F.take j++[e]:=by rw[List.take_add_one,he];rfl
   have t:=LH.le_trans w hle;unfold evV;refine gZ ?_;refine t_gr (c2064 (K.le t.1) (M.le t.1) rt k i e.day) ?_;rintro _ h4 o rfl;have y:=LH.le_trans t o;cases ho:turnO x k i e.day with
   | none =>
    have V:=(turnO_none rt.ok).1 ho;simp only[Option.isSome,Kf,zeroAsk];refine yF ?_;refine gZ ?_;refine Jk (LH.le_trans hle o) (D _ _ (LH.le_trans hle o) ⟨q,m,cc,rfl,?_⟩);rw[s,turns_skip V];exact g.le o.1
   | some a =>
    obtain⟨Q,E⟩:=Do rt.ok ho;simp only[Option.isSome,Kf,askCells];refine yT ?_;refine gZ ?_;refine t_gr (c2094 (K.le y.1) (M.le y.1) k i e.day) ?_;rintro _ h5 H rfl;refine gZ ?_;have hm:m<=100:=by
     rw[g.count TitleEnc.len (by omega),List.length_append,List.length_map];unfold turnsL;rw[List.length_map];have h1:=List.length_filter_le (fun e:Ev=>decide (0<=turned x k i e.day)) (F.take j);have h2:(F.take j).length<=F.length:=by rw[List.length_take];omega
     omega
    refine Gz [titleV f x k i (.turn a e.day)] Uu infTitle (by decide) (by decide) (by kernel_rfl) ?_;intro r h6 I _ W;refine gZ ?_;refine t_growR (h₀:=h3) (Enc:=TitleEnc f x k i) (Title.turn a e.day) [titleV f x k i (.turn a e.day)] rfl rfl Uu infTitle rfl (by omega) (by omega) (g.le (LH.le_trans o (LH.le_trans H I)).1) (LH.le_trans hle (LH.le_trans o (LH.le_trans H I))) rfl rfl W (by simp[titleV_one]) ?_;intro p' N h7 J m0 g7;refine gZ ?_;refine Jk J (D _ _ J ⟨p',_,N,rfl,?_⟩);rw[s,turns_step (by rw[<- E];exact Q),<- List.append_assoc,<- E];exact g7
end
section
open Go.TM.Tr
attribute [local irreducible] T.wp CV FWK
variable {x:TF}{h:LH}{f:TC}
theorem dated_all(x:TF)(k i d a:Int)(b:a<=10000):dated x k i d a=Jj a (((x.events.filter (allB 6 k i)).filter fun e=>decide (e.day<=d)&&decide (e.since<=a)).map (·.since)):=by
 unfold dated oldL;rw[K7 _ _ b,List.filter_filter,Dx];have:(x.events.filter fun e=>about e 6 k i&&(decide (e.day<=d)&&decide (e.since<=a)))=x.events.filter fun e=>(decide (e.day<=d)&&decide (e.since<=a))&&allB 6 k i e:=by
  refine List.filter_congr fun e _=>?_;rw[K2 (by decide),Bool.and_comm];rfl
 rw[this]
theorem dateOn_least(v:Ok x)(k i d:Int):dateOn x k i d=if least ((held x k i d).map (dated x k i d))=10000 then -1 else least ((held x k i d).map (dated x k i d)):=by
 unfold dateOn;rcases Wf (W8 v (k:=k) (i:=i) (d:=d)) with⟨h1,h2⟩|⟨h1,h2⟩
 ·rw[h1,h2];rfl
 ·rw[h2];have:=W8 v (k:=k) (i:=i) (d:=d) _ h1;rw[h2]at this;rw[if_neg (by omega)]
theorem title_low(rt:Right x){k i:Int}{t:Title}(h:t∈titlesL x k i):Zu t<=10000:=by
 rcases titles_ask h with⟨a,rfl,b⟩|⟨e,_,rfl,_⟩
 ·have:=rt.askDay b;show a<=10000;omega
 ·show turned x k i e.day<=10000;rcases Wb rt.ok k i e.day with⟨h1,_⟩|⟨h1,_⟩
  ·omega
  ·have:=rt.ok.turnedL _ h1;omega
theorem c2060(R:Kinds h.get)(V:TreatyR h.get f x)(rt:Right x)(k i d:Int) :
  Gr Tryz.prog 84 #[matV f x k i,d] h fun r _=>r=.int .i64 (dateOn x k i d):=by
 refine w2060 _ _ _ _ _ _ _ _ _ _ _ _ Qn ?_;unfold n2060;refine t_gr (c2082 R V rt k i) ?_;rintro _ h₁ W ⟨p,n,c,rfl,U⟩;refine gZ ?_;have hn:=U.1;have hb:=U.2.1;have j0:=titles_len x k i;have S:=rt.many;refine Qq (fun mm vs h'=>h₁.le h'/\∃ (j:Nat) (b:Int),vs=[.int .i64 b,.int .i64 j,.int .i64 x.items,.int .i64 x.lands,.int .i64 x.start,.int .i64 x.depend,.int .i64 x.refuse,.int .i64 x.turn,.slice f.p f.n f.c,.int .i64 k,.int .i64 i,.int .i64 d]/\j<=n/\mm=n-j/\b<=10000 /\
   least ((held x k i d).map (dated x k i d))=Jj b (((((titlesL x k i).drop j).filter (titleOn x k i d)).map Zu).map (dated x k i d)))
  ⟨LH.le_refl _,0,10000,rfl,Nat.zero_le _,rfl,Int.le_refl _,by rw[List.drop_zero,titles_held,Gu]⟩ ?_
 rintro Y mm vs h2 hY ⟨A,j,b,rfl,hj,rfl,hb1,hc⟩;have l:=LH.le_trans W A;have next:∀ h' (B:Int),h₁.le h'->j+1<=n->B<=10000->least ((held x k i d).map (dated x k i d))=Jj B (((((titlesL x k i).drop (j+1)).filter (titleOn x k i d)).map Zu).map (dated x k i d)) ->
   Y [.int .i64 B,.int .i64 (wrap .i64 ((j:Int)+1)),.int .i64 x.items,.int .i64 x.lands,.int .i64 x.start,.int .i64 x.depend,.int .i64 x.refuse,.int .i64 x.turn,.slice f.p f.n f.c,.int .i64 k,.int .i64 i,.int .i64 d] h':=by
  intro h' B E e0 M N;refine hY (n-(j+1)) _ _ (by omega) ⟨E,j+1,B,?_,by omega,rfl,M,N⟩;rw[Qj (by omega) (by omega)];rfl
 refine yJ (fun e1=>?_) (fun e1=>?_)
 ·obtain⟨t,ad,Z,K,he⟩:=(U.le TitleE.grow A.1).at (i:=j) (by omega);unfold TitleE at he;rw[Ga]at he;have G:=List.mem_of_getElem? Z;rw[Jd Z,List.filter_cons]at hc;subst K;refine gT (by omega) (gS2 rfl (Z3 he ?_));refine J2 (cv_title (R.le l.1) (V.le l.1) rt k i d G) ?_;rintro _ h3 ⟨I,rfl⟩;have u:=LH.le_trans l I;have w:=LH.le_trans A I;refine yI (fun o=>?_) (fun o=>?_)
  ·have o:titleOn x k i d t=false:=by simpa using o
   rw[o,if_neg (by simp)]at hc;exact Qa (next h3 b w (by omega) hb1 hc)
  ·have o:titleOn x k i d t=true:=by simpa using o
   rw[o,if_pos rfl,List.map_cons,List.map_cons,Jj]at hc;have s:=title_low rt G;refine Yr Qn (R.le u.1) (V.le u.1) k i 6 (by decide) ?_;intro v h4 L X J C hH;have D:=dated_all x k i d (Zu t) s;generalize hF:x.events.filter (allB 6 k i)=F at J C D;have H:=LH.le_trans w X;refine Gs (LH.le_refl h4) hH (fun j vs h'=>∃ a:Int,vs=[.int .i64 a]/\a<=10000/\dated x k i d (Zu t)=Jj a (((F.drop j).filter fun e=>decide (e.day<=d)&&decide (e.since<=Zu t)).map (·.since)))
    ⟨_,rfl,s,D⟩ ?_ ?_
   ·rintro vs h' hle ⟨a,rfl,z,g⟩;rw[List.drop_eq_nil_of_le (by omega)]at g;simp only[List.filter_nil,List.map_nil,Jj]at g;rw[g]at hc;refine gZ ?_;exact Qa (next h' _ (LH.le_trans H hle) (by omega) (by split<;>omega) hc)
   ·rintro j2 xs vs h' Q hle ⟨a,rfl,z,g⟩ Y2 y;obtain⟨e,q,m,cc,P,rfl,a0⟩:=C j2 xs Q;rw[Jd P,List.filter_cons]at g;unfold evV;refine yJ (fun e3=>?_) (fun e3=>?_)
    ·refine t_if (fun e4=>?_) (fun e4=>?_)
     ·rw[if_pos (by simp;omega),List.map_cons,Jj]at g;exact Jk hle (y _ _ hle ⟨_,rfl,by split<;>omega,g⟩)
     ·rw[if_neg (by simp;omega)]at g;exact Jk hle (y _ _ hle ⟨_,rfl,z,g⟩)
    ·rw[if_neg (by simp;omega)]at g;exact Jk hle (y _ _ hle ⟨_,rfl,z,g⟩)
 ·refine gZ ?_;rw[List.drop_eq_nil_of_le (by omega)]at hc;simp only[List.filter_nil,List.map_nil,Jj]at hc;have O:=dateOn_least rt.ok k i d;rw[hc]at O;refine Qt (fun o=>?_) (fun o=>?_)
  ·exact Qe ⟨l,by rw[O,if_pos (by simpa using o)]⟩
  ·exact Qe ⟨l,by rw[O,if_neg (by simpa using o)]⟩
def datesT(x:TF)(k d:Int):List Int:=(List.range x.items.toNat).map fun i:Nat=>dateOn x k (i:Int) d
def DatesR(h:Cells)(x:TF)(k d:Int)(r:Value):Prop :=
 (Qu x k d≠0/\r=.tuple #[.slice none 0 0,.int .i64 (Qu x k d)]) \/
 (Qu x k d=0/\∃ p n c,r=.tuple #[.slice p n c,.int .i64 0]/\Sl IntE 1 h p n (datesT x k d)/\n<=c)
theorem c2026(t:Kinds h.get)(u:TreatyR h.get f x)(k d:Int):Gr Tryz.prog 42 #[treatyV f x,k,d] h fun r h'=>DatesR h'.get x k d r:=by
 refine w2026 Qn ?_;refine t_pu (c2063 t u k d) ?_;refine yI (fun e=>?_) (fun e=>?_)
 ·exact Qe ⟨LH.le_refl _,.inl ⟨by simpa using e,rfl⟩⟩
 have s:Qu x k d=0:=by simpa using e
 have b:=(G8 (De s).1).1;have rt:=Right.of b;have B:=(Jx b).1;refine Qq (fun v vs h'=>h.le h'/\∃ (j:Nat) (p:Option Addr) (n c:Nat),vs=[.slice p n c,.int .i64 j]/\(j:Int)<=x.items/\v=x.items.toNat-j/\Growing IntEnc 3 1 h.get h'.get p n c ((List.range j).map fun i:Nat=>dateOn x k (i:Int) d))
  ⟨LH.le_refl _,0,none,0,0,rfl,by omega,rfl,Growing.nil⟩ ?_
 rintro Y v vs h₁ A ⟨a,j,p,n,c,rfl,E,rfl,g⟩;refine yJ (fun y=>?_) (fun y=>?_)
 ·refine t_gr (c2060 (t.le a.1) (u.le a.1) rt k j d) ?_;rintro _ h2 l rfl;refine gZ ?_;have C:n=j:=by rw[g.count IntEnc.len (by omega)];simp
  refine Gd (dateOn x k j d) [.int .i64 (dateOn x k j d)] rfl rfl und50 inf3 rfl (by omega) (by decide) (by kernel_rfl) rfl (by simp;rfl) (by omega) (g.le l.1) (LH.le_trans a l) rfl ?_;intro D w h3 q _ z;refine gZ ?_;refine Qa (A (x.items.toNat-(j+1)) _ _ (by omega) ⟨q,j+1,D,n+1,w,?_,by omega,rfl,?_⟩)
  ·rw[Qj (by omega) (by omega)];rfl
  ·rw[List.range_succ,List.map_append];exact z
 ·refine gZ ?_;have m:x.items.toNat=j:=by omega
  refine Qe ⟨a,.inr ⟨s,p,n,c,rfl,?_,?_⟩⟩
  ·unfold datesT;rw[m];exact g.sl IntEnc.len (by omega) IntEnc.e (by simp;omega)
  ·obtain⟨vs,o,_⟩:=g.row;exact o.le_cap
end
section
open Go.TM.Tr
attribute [local irreducible] T.wp CV FWK
def protT(x:TF)(k d:Int):List Bool:=(datesT x k d).map fun d=>decide (d>=0)
def ProtR(h:Cells)(x:TF)(k d:Int)(r:Value):Prop :=
 ∃ p n c,r=.tuple #[.slice p n c,.int .i64 (Qu x k d)]/\Sl BoolE 1 h p n (if Qu x k d=0 then protT x k d else [])/\n<=c
variable {h:LH}{f:TC}{x:TF}
theorem dates_len(x:TF)(k d:Int):(datesT x k d).length=x.items.toNat:=by unfold datesT;simp
theorem c2018(hk:Kinds h.get)(hx:TreatyR h.get f x)(k d:Int):Gr Tryz.prog 41 #[treatyV f x,.int .i64 k,.int .i64 d] h fun r h'=>ProtR h'.get x k d r:=by
 refine w2018 Qn ?_;refine t_gr (c2026 hk hx k d) ?_;intro r h₁ D hr;obtain⟨p,n,c,g,l,rfl,U,R,S,a0⟩ : ∃ p n c g l,r=.tuple #[.slice p n c,.int .i64 g]/\Sl IntE 1 h₁.get p n l/\g=Qu x k d/\(if Qu x k d=0 then protT x k d else [])=l.map (fun d=>decide (d>=0))/\l.length<=5:=by
  rcases hr with⟨h1,rfl⟩|⟨h1,p,n,c,rfl,h2,h3⟩
  ·exact⟨none,0,0,_,[],rfl,Sl.nil,rfl,by rw[if_neg h1];rfl,by simp⟩
  ·refine⟨p,n,c,0,_,rfl,h2,h1.symm,by rw[if_pos h1];rfl,?_⟩;have:=(Jx (G8 (De h1).1).1).1;rw[dates_len];omega
 refine gZ ?_;have F:=U.1;refine J1 fun r hr=>?_;have A:∀ cs,h₁.le { h₁ with get:=h₁.get.upd r (true,.cells cs 158 (0,0)) }:=fun cs=>Qp hr;refine Qq (fun W vs h'=>∃ (j:Nat) (cs:Array Value),vs=[.int .i64 j]/\j<=n/\W=n-j/\h'={ h₁ with get:=h₁.get.upd r (true,.cells cs 158 (0,0)) }/\cs.size=5/\(∀ (i:Nat) y,i<j->l[i]?=some y->cs[i]?=some (.bool (decide (y>=0))))/\∀ i:Nat,j<=i->i<5->cs[i]?=some (.bool false))
  ⟨0,#[.bool false,.bool false,.bool false,.bool false,.bool false],rfl,Nat.zero_le _,rfl,rfl,rfl,fun i y u=>absurd u (Nat.not_lt_zero _),fun i _ u=>by match i,u with|0,_|1,_|2,_|3,_|4,_=>rfl⟩ ?_
 rintro Y W vs _ hY ⟨j,cs,rfl,hj,rfl,rfl,P,q,t⟩;refine yJ (fun e1=>?_) (fun e1=>?_)
 ·obtain⟨y,a,hy,ha,e2⟩:=(U.le IntE.grow (A cs).1).at (i:=j) (by omega);unfold IntE at e2;refine gZ ?_;refine t_storeU (o:=j) (by rw[Qh,Qh];simp) rfl (by omega) ?_;refine Qa (hY (n-(j+1)) _ _ (by omega) ⟨j+1,_,?_,by omega,rfl,rfl,by simp[P],fun i z u w=>?_,fun i u h5=>?_⟩)
  ·rw[Qj (by omega) (by omega)];rfl
  ·by_cases e:i=j
   ·subst e;rw[hy]at w;cases w;rw[Array.getElem?_setIfInBounds_self_of_lt (by omega)]
   ·rw[Array.getElem?_setIfInBounds_ne (Ne.symm e)];exact q i z (by omega) w
  ·rw[Array.getElem?_setIfInBounds_ne (by omega)];exact t i (by omega) h5
 ·refine gZ ?_;have N:j=n:=by omega
  subst N;obtain⟨E,B,s⟩ : ∃ E:List Bool,E.length=5/\∀ (i:Nat) b,E[i]?=some b->cs[i]?=some (.bool b):=by
   refine⟨(List.range 5).map fun i:Nat=>match (l[i]? : Option Int) with|some y=>decide (y>=0)|none=>false,by simp,fun i b hb=>?_⟩;rw[List.getElem?_map]at hb;by_cases h5:i<5
   ·rw[List.getElem?_range h5]at hb;simp only[Option.map_some,Option.some.injEq]at hb;cases m:l[i]? with
    | none =>
     rw[m]at hb;subst hb;exact t i (by rw[F];exact List.getElem?_eq_none_iff.1 m) h5
    | some y =>
     rw[m]at hb;subst hb;exact q i y (by rw[F];exact(List.getElem?_eq_some_iff.1 m).1) m
   ·rw[List.getElem?_eq_none (by simp;omega)]at hb;cases hb
  match E,B with
  | [b0,b1,G,H,I],_ =>
   have c0:Cells.cell? (h₁.get.upd r (true,.cells cs 158 (0,0))) (Addr.add ⟨r,0,none⟩ 0)=some (.bool b0):=by rw[Qh];exact Qs (s 0 _ rfl)
   have c1:Cells.cell? (h₁.get.upd r (true,.cells cs 158 (0,0))) (Addr.add ⟨r,0,none⟩ 1)=some (.bool b1):=by rw[Qh];exact Qs (s 1 _ rfl)
   have c2:Cells.cell? (h₁.get.upd r (true,.cells cs 158 (0,0))) (Addr.add ⟨r,0,none⟩ 2)=some (.bool G):=by rw[Qh];exact Qs (s 2 _ rfl)
   have c3:Cells.cell? (h₁.get.upd r (true,.cells cs 158 (0,0))) (Addr.add ⟨r,0,none⟩ 3)=some (.bool H):=by rw[Qh];exact Qs (s 3 _ rfl)
   have c4:Cells.cell? (h₁.get.upd r (true,.cells cs 158 (0,0))) (Addr.add ⟨r,0,none⟩ 4)=some (.bool I):=by rw[Qh];exact Qs (s 4 _ rfl)
   refine gL2 c0 (gL2 c1 (gL2 c2 (gL2 c3 (gL2 c4 ?_))));refine t_eqA5 undItems bo4 inf4 gItems ?_;refine yI (fun e=>?_) (fun e=>?_)
   ·have e:[b0,b1,G,H,I]=[false,false,false,false,false]:=by simpa only [decide_eq_true_eq] using e
    refine t_makeSlice undBs inf4 rfl (by decide) (by omega) fun r2 Z O V C=>?_;refine gZ ?_;refine Qe ⟨LH.le_trans (LH.le_trans D (A cs)) (Qp O),_,_,_,by rw[R],?_,Nat.le_refl _⟩;rw[S];refine⟨by rw[List.length_map];exact F,by rw[List.length_map];omega,fun i b hb=>⟨_,rfl,?_⟩⟩;unfold BoolE;rw[Qh,Qh];rw[List.getElem?_map]at hb;cases m:l[i]? with
    | none=>rw[m]at hb;cases hb
    | some y =>
     rw[m]at hb;simp only[Option.map_some,Option.some.injEq]at hb;have u:=(List.getElem?_eq_some_iff.1 m).1;have h1:=q i y (by omega) m;have v:=C i (by omega);have M:b=false:=by
      have h2:=s i
      match i,u with
      | 0,_=>have:=h2 b0 rfl;cases e;rw[this]at h1;simp only[Option.some.injEq,Value.bool.injEq]at h1;rw[<- hb,<- h1]
      | 1,_=>have:=h2 b1 rfl;cases e;rw[this]at h1;simp only[Option.some.injEq,Value.bool.injEq]at h1;rw[<- hb,<- h1]
      | 2,_=>have:=h2 G rfl;cases e;rw[this]at h1;simp only[Option.some.injEq,Value.bool.injEq]at h1;rw[<- hb,<- h1]
      | 3,_=>have:=h2 H rfl;cases e;rw[this]at h1;simp only[Option.some.injEq,Value.bool.injEq]at h1;rw[<- hb,<- h1]
      | 4,_=>have:=h2 I rfl;cases e;rw[this]at h1;simp only[Option.some.injEq,Value.bool.injEq]at h1;rw[<- hb,<- h1]
      | i+5,u=>omega
     rw[M];have w:0+i*1+0=i:=by omega
     rw[w];exact Qs v
   ·refine t_sliceArr undItems inf4 (by omega) fun X J K=>?_;refine gZ ?_;refine Qe ⟨LH.le_trans D (A cs),_,_,_,by rw[R],?_,Nat.le_refl _⟩;rw[S];have L:X=⟨r,0,none⟩:=by
     by_cases Q:j=0
     ·exact J Q
     ·rw[K Q,Qh]
    subst L;refine⟨by rw[List.length_map];exact F,by rw[List.length_map];omega,fun i b hb=>⟨_,rfl,?_⟩⟩;unfold BoolE;rw[Qh,Qh];rw[List.getElem?_map]at hb;cases m:l[i]? with
    | none=>rw[m]at hb;cases hb
    | some y =>
     rw[m]at hb;simp only[Option.map_some,Option.some.injEq]at hb;have u:=(List.getElem?_eq_some_iff.1 m).1;have h1:=q i y (by omega) m;have w:0+i*1+0=i:=by omega
     rw[w,<- hb];exact Qs h1
def turnsT(x:TF)(k d:Int):List Int:=((List.range x.items.toNat).filter fun i:Nat=>decide (0<=turned x k (i:Int) d)).map fun i:Nat=>(i:Int)
def TurnsR(h:Cells)(x:TF)(k d:Int)(r:Value):Prop :=
 (Qu x k d≠0/\r=.tuple #[.slice none 0 0,.int .i64 (Qu x k d)]) \/
 (Qu x k d=0/\∃ p n c,r=.tuple #[.slice p n c,.int .i64 0]/\Sl IntE 1 h p n (turnsT x k d)/\n<=c)
theorem c2029(z:Kinds h.get)(B:TreatyR h.get f x)(k d:Int):Gr Tryz.prog 44 #[treatyV f x,k,d] h fun r h'=>TurnsR h'.get x k d r:=by
 refine w2029 Qn ?_;refine t_pu (c2063 z B k d) ?_;refine yI (fun e=>?_) (fun e=>?_)
 ·exact Qe ⟨LH.le_refl _,.inl ⟨by simpa using e,rfl⟩⟩
 have w:Qu x k d=0:=by simpa using e
 have m:=(G8 (De w).1).1;have rt:=Right.of m;have G:=(Jx m).1;refine Qq (fun C vs h'=>h.le h'/\∃ (j:Nat) (p:Option Addr) (n c:Nat),vs=[.slice p n c,.int .i64 j]/\(j:Int)<=x.items/\C=x.items.toNat-j/\Growing IntEnc 3 1 h.get h'.get p n c (((List.range j).filter fun i:Nat=>decide (0<=turned x k (i:Int) d)).map fun i:Nat=>(i:Int)))
  ⟨LH.le_refl _,0,none,0,0,rfl,by omega,rfl,Growing.nil⟩ ?_
 rintro Y C vs h₁ y ⟨b,j,p,n,c,rfl,J,rfl,g⟩;have H:n<=j:=by
  rw[g.count IntEnc.len (by omega),List.length_map];have:=List.length_filter_le (fun i:Nat=>decide (0<=turned x k (i:Int) d)) (List.range j);rw[List.length_range]at this;exact this
 refine yJ (fun E=>?_) (fun E=>?_)
 ·refine t_gr (c2064 (z.le b.1) (B.le b.1) rt k j d) ?_;rintro _ h2 l rfl;cases A:turnO x k (j:Int) d with
  | none =>
   have u:=(turnO_none rt.ok).1 A;simp only[Option.isSome,Kf,zeroAsk];refine yF ?_;refine Qa (y (x.items.toNat-(j+1)) _ _ (by omega) ⟨LH.le_trans b l,j+1,p,n,c,?_,by omega,rfl,?_⟩)
   ·rw[Qj (by omega) (by omega)];rfl
   ·rw[List.range_succ,List.filter_append,List.filter_cons,if_neg (by simpa using u)];simpa using g.le l.1
  | some a =>
   obtain⟨q,s⟩:=Do rt.ok A;simp only[Option.isSome,Kf,askCells];refine yT ?_;refine Gd (j:Int) [.int .i64 (j:Int)] rfl rfl und50 inf3 rfl (by omega) (by decide) (by kernel_rfl) rfl (by simp;rfl) (by omega) (g.le l.1) (LH.le_trans b l) rfl ?_;intro I D h3 v _ F;refine gZ ?_;refine Qa (y (x.items.toNat-(j+1)) _ _ (by omega) ⟨v,j+1,I,n+1,D,?_,by omega,rfl,?_⟩)
   ·rw[Qj (by omega) (by omega)];rfl
   ·rw[List.range_succ,List.filter_append,List.filter_cons,if_pos (by rw[<- s];simpa using q),List.map_append];exact F
 ·refine gZ ?_;have t:x.items.toNat=j:=by omega
  refine Qe ⟨b,.inr ⟨w,p,n,c,rfl,?_,?_⟩⟩
  ·unfold turnsT;rw[t];refine g.sl IntEnc.len (by omega) IntEnc.e ?_;rw[<- g.count IntEnc.len (by omega)];omega
  ·obtain⟨vs,o,_⟩:=g.row;exact o.le_cap
end
section
open Go.TM.Tr
attribute [local irreducible] T.wp CV FWK
def KindsOk(x:TF):Prop:=∀ e∈x.events,0<=e.kind/\e.kind<=6
variable {x:TF}{h:LH}{f:TC}
theorem KindsOk.of(h:checkT x=0):KindsOk x:=fun e he=>(Up.1 (Dd h e he)).kind
theorem KindsOk.nat(h:KindsOk x){e:Ev}(he:e∈x.events):∃ n:Nat,e.kind=n/\n<7:=by
 have:=h e he;exact⟨e.kind.toNat,by omega,by omega⟩
theorem gives_int{n:Nat}(a:n<7){e:Ev}(he:e.kind=n):givesK n=givesB e:=by
 unfold givesB;rw[he]
 match n,a with
 | 0,_|1,_|2,_|3,_|4,_|5,_|6,_=>rfl
theorem cv_gives(n:Nat):CV X0 Tryz.prog (.func (.func (if givesK n then 235 else 236)) #[] #[]) #[] h fun r h'=>r=.bool (givesK n)/\h=h':=by
 cases a:givesK n with
 | true=>exact Kq Qn (by rfl) (FW.mono c2140 fun _ _ h=>⟨h.1,h.2.symm⟩)
 | false=>exact Kq Qn (by rfl) (FW.mono c2141 fun _ _ h=>⟨h.1,h.2.symm⟩)
theorem H7{e:Ev}:∀ (l:List Ev) (n:Int),givingGo (l++[e]) n=givingGo l n++if givesB e then [n+(l.length:Int)] else []
 | [],n=>by simp[givingGo]
 | c::l,n=>by
  rw[List.cons_append,givingGo,givingGo,H7 l (n+1)];have:n+1+(l.length:Int)=n+((c::l).length:Int):=by simp;omega
  rw[this];split<;>simp
theorem Ut{L:List Int}{e:Ev}:∀ (l:List Ev) (n:Int),withGo L (l++[e]) n=withGo L l n++if (!givesB e||L.contains (n+(l.length:Int))) then [e] else []
 | [],n=>by simp[withGo]
 | c::l,n=>by
  rw[List.cons_append,withGo,withGo,Ut l (n+1)];have:n+1+(l.length:Int)=n+((c::l).length:Int):=by simp;omega
  rw[this];split<;>simp
theorem Dy:∀ (l:List Ev) (n:Int),(givingGo l n).length<=l.length
 | [],_=>Nat.le_refl _
 | c::l,n=>by
  have:=Dy l (n+1);rw[givingGo];split<;>simp<;>omega
theorem Yc(L:List Int):∀ (l:List Ev) (n:Int),(withGo L l n).length<=l.length
 | [],_=>Nat.le_refl _
 | c::l,n=>by
  have:=Yc L l (n+1);rw[withGo];split<;>simp<;>omega
theorem Right.with(r:Right x)(L:List Int):Right (withE x L) :=
 ⟨Y1 r.ok L,r.start,r.depend,r.refuse,r.turn,Nat.le_trans (Yc L x.events 0) r.many⟩
theorem c2067(E:Kinds h.get)(G:TreatyR h.get f x)(t:KindsOk x)(u:x.events.length<=10) :
  Gr Tryz.prog 89 #[treatyV f x] h fun r h'=>∃ p n c,r=.slice p n c/\Sl IntE 1 h'.get p n (giving x)/\n<=c:=by
 refine w2067 Qn ?_;have z:=G.2;have O:=z.1;refine Qq (fun A vs h'=>h.le h'/\∃ (j:Nat) (p:Option Addr) (n c:Nat),vs=[.slice p n c,.int .i64 j]/\j<=f.n/\A=f.n-j/\Growing IntEnc 3 1 h.get h'.get p n c (givingGo (x.events.take j) 0))
  ⟨LH.le_refl _,0,none,0,0,rfl,Nat.zero_le _,rfl,Growing.nil⟩ ?_
 rintro Y A vs h₁ y ⟨d,j,p,n,c,rfl,N,rfl,g⟩;have F:n<=10:=by
  rw[g.count IntEnc.len (by omega)];have:=Dy (x.events.take j) 0;rw[List.length_take]at this;omega
 refine yJ (fun C=>?_) (fun C=>?_)
 ·obtain⟨e,a,he,M,g0,I,J,⟨q,m,cc,w,_,L⟩,K⟩:=(z.le EventE.grow d.1).at (i:=j) (by omega);obtain⟨kn,l,k⟩:=t.nat (List.mem_of_getElem? he);have b:x.events.take (j+1)=x.events.take j++[e]:=by rw[List.take_add_one,he];rfl
  have hlen:(x.events.take j).length=j:=by rw[List.length_take];omega
  have D:=(E.le d.1).givesAt k;rw[l]at g0;refine gZ ?_;refine Z3 D ?_;refine J2 (cv_gives kn) ?_;rintro _ _ ⟨rfl,rfl⟩;rw[gives_int k l];refine yI (fun s=>?_) (fun s=>?_)
  ·refine Gd (j:Int) [.int .i64 (j:Int)] rfl rfl und50 inf3 rfl (by omega) (by decide) (by kernel_rfl) rfl (by simp;rfl) (by omega) g d rfl ?_;intro H B h3 v _ w;refine gZ ?_;refine Qa (y (f.n-(j+1)) _ _ (by omega) ⟨v,j+1,H,n+1,B,?_,by omega,rfl,?_⟩)
   ·rw[Qj (by omega) (by omega)];rfl
   ·rw[b,H7,if_pos s,hlen,Int.zero_add];exact w
  ·refine Qa (y (f.n-(j+1)) _ _ (by omega) ⟨d,j+1,p,n,c,?_,by omega,rfl,?_⟩)
   ·rw[Qj (by omega) (by omega)];rfl
   ·rw[b,H7,if_neg (by rw[s];simp),List.append_nil];exact g
 ·refine gZ ?_;rw[List.take_of_length_le (by omega)]at g;refine Qe ⟨d,p,n,c,rfl,g.sl IntEnc.len (by omega) IntEnc.e ?_,?_⟩
  ·show (givingGo x.events 0).length<_;rw[<- g.count IntEnc.len (by omega)];omega
  ·obtain⟨vs,o,_⟩:=g.row;exact o.le_cap
theorem c2069(U:Kinds h.get)(hx:TreatyR h.get f x)(rt:Right x)(G:KindsOk x)(k i d:Int){O:Option Addr}{N Z:Nat}{L:List Int}(hL:Sl IntE 1 h.get O N L) :
  Gr Tryz.prog 91 #[treatyV f x,k,.int .i64 i,d,.slice O N Z] h fun r _=>r=.bool (holdsB x k i d L):=by
 refine w2069 Qn ?_;have V:=hx.2;have hn:=V.1;have H:=rt.many;refine Qq (fun W vs h'=>h.le h'/\∃ (j:Nat) (p:Option Addr) (n c:Nat),vs=[.int .i64 j,.int .i64 x.items,.int .i64 x.lands,.int .i64 x.start,.int .i64 x.depend,.int .i64 x.refuse,.int .i64 x.turn,.slice p n c]/\j<=f.n/\W=f.n-j/\Growing (EventEnc h.get) 58 5 h.get h'.get p n c (withGo L (x.events.take j) 0))
  ⟨LH.le_refl _,0,none,0,0,rfl,Nat.zero_le _,rfl,Growing.nil⟩ ?_
 rintro Y W vs h₁ hY ⟨b,j,p,n,c,rfl,hj,rfl,g⟩;have a0:n<=10:=by
  rw[g.count EventEnc.len (by omega)];have:=Yc L (x.events.take j) 0;rw[List.length_take]at this;omega
 refine yJ (fun X=>?_) (fun X=>?_)
 ·obtain⟨e,a,he,ha,g0,P,R,⟨q,m,cc,C,g6,g5⟩,S⟩:=V.at (i:=j) (by omega);have B:EventEnc h.get e [.int .i64 e.kind,.int .i64 e.day,.int .i64 e.land,.slice q m cc,.int .i64 e.since]:=⟨q,m,cc,rfl,g6,g5⟩
  obtain⟨kn,A,z⟩:=G.nat (List.mem_of_getElem? he);have u:x.events.take (j+1)=x.events.take j++[e]:=by rw[List.take_add_one,he];rfl
  have hlen:(x.events.take j).length=j:=by rw[List.length_take];omega
  have hg:=(U.le b.1).givesAt z;rw[A]at g0 B;have g0:=Qc b.1 g0;have P:=Qc b.1 P;have R:=Qc b.1 R;have C:=Qc b.1 C;have S:=Qc b.1 S;refine gZ ?_;refine Z3 hg ?_;refine J2 (cv_gives kn) ?_;rintro _ _ ⟨rfl,rfl⟩;rw[gives_int z A];have keep:(!givesB e||L.contains (j:Int))=true->∀ {K:Value->T} {Q:Leaf->LH->Prop},(∀ t s h',h.le h'->Growing (EventEnc h.get) 58 5 h.get h'.get t (n+1) s (withGo L (x.events.take (j+1)) 0)->(K (.slice t (n+1) s)).wp X0 Tryz.prog Q h') ->
    (T.sem false (Instr.buildSlice 53 1 #[(0,.agg #[.int .i64 (kn:Int),.int .i64 e.day,.int .i64 e.land,.slice q m cc,.int .i64 e.since])]) fun v=>T.unS v fun a m mc=>T.sem false (Builtin.append_ #[53,53] 53 #[.slice p n c,.slice a m mc]) K).wp X0 Tryz.prog Q h₁:=by
   intro y K Q hK;refine Gd e [.int .i64 (kn:Int),.int .i64 e.day,.int .i64 e.land,.slice q m cc,.int .i64 e.since] rfl rfl undEvs infEv rfl (by omega) (by decide) (by kernel_rfl) rfl ?_ (by omega) g b B ?_
   ·intro w hw;simp only[List.mem_cons,List.not_mem_nil,or_false]at hw;rcases hw with rfl|rfl|rfl|rfl|rfl<;>rfl
   ·intro t s h3 M _ C;refine hK t s h3 M ?_;rw[u,Ut,hlen,Int.zero_add,if_pos y];exact C
  have next:∀ h' t D s,h.le h'->Growing (EventEnc h.get) 58 5 h.get h'.get t D s (withGo L (x.events.take (j+1)) 0)->Y [.int .i64 (wrap .i64 ((j:Int)+1)),.int .i64 x.items,.int .i64 x.lands,.int .i64 x.start,.int .i64 x.depend,.int .i64 x.refuse,.int .i64 x.turn,.slice t D s] h':=by
   intro h' t D s l g';refine hY (f.n-(j+1)) _ _ (by omega) ⟨l,j+1,t,D,s,?_,by omega,rfl,g'⟩;rw[Qj (by omega) (by omega)];rfl
  refine yI (fun E=>?_) (fun E=>?_)
  ·refine keep (by rw[E,Bool.true_or]) fun t s h' l g'=>?_;refine gZ ?_;exact Qa (next h' t _ s l g')
  ·refine t_pu (c100 (hL.le IntE.grow b.1) (j:Int)) ?_;refine yI (fun F=>?_) (fun F=>?_)
   ·refine keep (by rw[F,Bool.or_true]) fun t s h' l g'=>?_;refine gZ ?_;exact Qa (next h' t _ s l g')
   ·refine Qa (next h₁ p n c b ?_);rw[u,Ut,hlen,Int.zero_add,if_neg (by rw[E,F];simp),List.append_nil];exact g
 ·refine gZ ?_;rw[List.take_of_length_le (by omega)]at g;have I:TreatyR h₁.get ⟨p,n,c⟩ (withE x L):=by
   refine⟨?_,g.sl EventEnc.len (by omega) (EventEnc.e (Ja b.1)) ?_⟩
   ·obtain⟨vs,o,_⟩:=g.row;exact o.le_cap
   ·show (withGo L x.events 0).length<_;rw[<- g.count EventEnc.len (by omega)];omega
  refine t_gr (c2060 (U.le b.1) I (rt.with L) k i d) ?_;rintro _ h2 J rfl;refine gZ ?_;exact Qe ⟨LH.le_trans b J,rfl⟩
end
end Go.Y.Tre
section
namespace Go.TM.Ma
abbrev Ed:=List (Int×Int)
theorem Z2{α:Type}[DecidableEq α]:∀ {a b:List α},a.Nodup->(∀ x∈a,x∈b)->a.length<=b.length
 | [],b,_,_=>Nat.zero_le _
 | x::a,b,h,e=>by
  have d:=List.nodup_cons.1 h;have f:=e x (by simp);have:=Z2 (a:=a) (b:=b.erase x) d.2 fun y g=>by
   have c:y≠x:=by rintro rfl;exact d.1 g
   exact(List.mem_erase_of_ne c).2 (e y (by simp[g]))
  rw[List.length_erase_of_mem f]at this;have i:0<b.length:=List.length_pos_of_mem f;simp only[List.length_cons];omega
theorem Dj{α:Type}(f:α->Bool):∀ l:List α,l.length=(l.filter f).length+(l.filter fun x=>!f x).length
 | []=>rfl
 | x::l=>by
  have:=Dj f l;cases h:f x<;>simp[h]<;>omega
theorem Zv{l:Ed}{g:Int×Int->Int}(f:Int×Int->Bool)(h:(l.map g).Nodup):((l.filter f).map g).Nodup :=
 List.Nodup.sublist ((List.filter_sublist (l:=l) (p:=f)).map g) h
def Mat(G:Ed)(n:Nat):Prop:=∃ M:Ed,M.length=n/\(∀ p∈M,p∈G)/\(M.map (·.1)).Nodup/\(M.map (·.2)).Nodup
def Cov(G:Ed)(n:Nat):Prop:=∃ L R:List Int,L.length+R.length<=n/\∀ p∈G,p.1∈L\/p.2∈R
theorem weakL{M:Ed}{L R:List Int}(h1:(M.map (·.1)).Nodup)(h2:(M.map (·.2)).Nodup)(hc:∀ p∈M,p.1∈L\/p.2∈R):M.length<=L.length+R.length:=by
 have e:=Dj (fun p:Int×Int=>decide (p.1∈L)) M;have a:=Z2 (b:=L) (Zv (fun p=>decide (p.1∈L)) h1) fun x d=>by
  obtain⟨p,c,rfl⟩:=List.mem_map.1 d;exact of_decide_eq_true (List.mem_filter.1 c).2
 have b:=Z2 (b:=R) (Zv (fun p=>!decide (p.1∈L)) h2) fun x d=>by
  obtain⟨p,c,rfl⟩:=List.mem_map.1 d;obtain⟨g,f⟩:=List.mem_filter.1 c;simp only[Bool.not_eq_true',decide_eq_false_iff_not]at f;exact(hc p g).resolve_left f
 rw[List.length_map]at a b;omega
theorem weak{G:Ed}{n m:Nat}:Mat G n->Cov G m->n<=m:=by
 rintro⟨M,rfl,h0,h1,h2⟩ ⟨L,R,h3,a⟩;exact Nat.le_trans (weakL h1 h2 fun p b=>a p (h0 p b)) h3
theorem Mat.sub{G a:Ed}{n:Nat}(h:∀ p∈G,p∈a):Mat G n->Mat a n:=by
 rintro⟨M,h0,h1,h2⟩;exact⟨M,h0,fun p b=>h p (h1 p b),h2⟩
theorem mono{G c:Ed}{n m:Nat}(h:∀ p∈G,p∈c)(a:Mat G n)(b:Cov c m):n<=m:=weak (a.sub h) b
theorem Mat.less{G:Ed}{n m:Nat}(h:m<=n):Mat G n->Mat G m:=by
 rintro⟨M,rfl,h0,h1,h2⟩;exact⟨M.take m,by rw[List.length_take];omega,fun p a=>h0 p (List.mem_of_mem_take a),List.Nodup.sublist ((List.take_sublist m M).map _) h1,List.Nodup.sublist ((List.take_sublist m M).map _) h2⟩
theorem Mat.len{G:Ed}{n:Nat}:Mat G n->n<=G.length:=by
 rintro⟨M,rfl,h0,h1,h2⟩;have:=Z2 (b:=G.map (·.1)) h1 fun x c=>by
  obtain⟨p,a,rfl⟩:=List.mem_map.1 c;exact List.mem_map.2 ⟨p,h0 p a,rfl⟩
 simpa using this
theorem Mat.pop{G:Ed}{n:Nat}(h:Mat G (n+1)):∃ (i:Nat) (p:Int×Int),G[i]?=some p/\Mat ((G.drop (i+1)).filter fun q=>!(q.1==p.1||q.2==p.2)) n:=by
 obtain⟨M,v,h0,h1,h2⟩:=h;have key:∀ (G:Ed),(∃ p∈M,p∈G)->∃ (i:Nat) (p:Int×Int),G[i]?=some p/\p∈M/\∀ q∈M,q∈G->q=p\/q∈G.drop (i+1):=by
  intro G
  induction G with
  | nil=>rintro⟨p,_,d⟩;simp at d
  | cons x G E =>
   intro D;by_cases e:x∈M
   ·exact⟨0,x,rfl,e,fun q _ t=>by
     rcases List.mem_cons.1 t with g|g
     ·exact .inl g
     ·exact .inr (by simpa using g)⟩
   ·obtain⟨p,d,t⟩:=D;have u:p∈G:=by
     rcases List.mem_cons.1 t with g|g
     ·exact absurd (g▸d) e
     ·exact g
    obtain⟨i,F,a,b,c⟩:=E ⟨p,d,u⟩;refine⟨i+1,F,by simpa using a,b,fun q o y=>?_⟩;rcases List.mem_cons.1 y with g|g
    ·exact absurd (g▸o) e
    ·rcases c q o g with g|g
     ·exact .inl g
     ·exact .inr (by simpa using g)
 cases s:M with
 | nil=>rw[s]at v;cases v
 | cons p0 H =>
  obtain⟨i,p,C,d,hr⟩:=key G ⟨p0,by rw[s];simp,h0 p0 (by rw[s];simp)⟩;refine⟨i,p,C,M.erase p,?_,fun q o=>?_,?_,?_⟩
  ·rw[List.length_erase_of_mem d,v];rfl
  ·have f:=List.mem_of_mem_erase o;have w:M.Nodup:=by
    rw[List.nodup_iff_pairwise_ne]at h1 ⊢;rw[List.pairwise_map]at h1;exact h1.imp fun h e=>h (by rw[e])
   have l:q≠p:=fun e=>by
    subst e;exact(List.Nodup.not_mem_erase w) o
   have z:q.1≠p.1:=fun e=>l (by
    have:=(List.nodup_iff_pairwise_ne.1 h1)
    rw[List.pairwise_map]at this;exact Classical.byContradiction fun hc=>by
     rcases List.mem_iff_getElem.1 f with⟨a,m,j⟩;rcases List.mem_iff_getElem.1 d with⟨b,hb,k⟩;have d:=List.pairwise_iff_getElem.1 this;rcases Nat.lt_trichotomy a b with g|g|g
     ·exact d a b m hb g (by rw[j,k];exact e)
     ·subst g;exact hc (j.symm.trans k)
     ·exact d b a hb m g (by rw[j,k];exact e.symm))
   have A:q.2≠p.2:=fun e=>l (by
    have:=(List.nodup_iff_pairwise_ne.1 h2)
    rw[List.pairwise_map]at this;exact Classical.byContradiction fun hc=>by
     rcases List.mem_iff_getElem.1 f with⟨a,m,j⟩;rcases List.mem_iff_getElem.1 d with⟨b,hb,k⟩;have d:=List.pairwise_iff_getElem.1 this;rcases Nat.lt_trichotomy a b with g|g|g
     ·exact d a b m hb g (by rw[j,k];exact e)
     ·subst g;exact hc (j.symm.trans k)
     ·exact d b a hb m g (by rw[j,k];exact e.symm))
   refine List.mem_filter.2 ⟨(hr q f (h0 q f)).resolve_left l,?_⟩;simp[z,A]
  ·exact List.Nodup.sublist (List.erase_sublist.map _) h1
  ·exact List.Nodup.sublist (List.erase_sublist.map _) h2
/-! ### B search r a path -/
abbrev Ow:=Int->Option Int
abbrev Sn:=Int->Bool
def setO(ow:Ow)(y x:Int):Ow:=fun z=>if z=y then some x else ow z
def setS(sn:Sn)(y:Int):Sn:=fun z=>if z=y then true else sn z
theorem Uf{sn:Sn}{y z:Int}(h:sn y=true):setS sn z y=true:=by
 unfold setS;split
 ·rfl
 ·exact h
def InjOn(sn:Sn)(ow:Ow):Prop:=∀ y y' x,sn y=false->sn y'=false->ow y=some x->ow y'=some x->y=y'
structure Srch(G:Ed)(x:Int)(ow:Ow)(sn:Sn)(ow':Ow)(sn':Sn)(b:Bool):Prop where
 grow:∀ y,sn y=true->sn' y=true
 keep:∀ y,sn y=true->ow' y=ow y
 fail:b=false->ow'=ow/\(∀ p∈G,p.1=x->sn' p.2=true)/\∀ y,sn' y=true->sn y=false->∃ o,ow y=some o/\∀ p∈G,p.1=o->sn' p.2=true
 valid:b=true->∀ y z,ow' y=some z->ow y=some z\/(z,y)∈G
 inj:b=true->InjOn sn ow->(∀ y,sn y=false->ow y≠some x)->InjOn sn ow'/\∀ z,(∃ y,sn y=false/\ow' y=some z)↔(z=x\/∃ y,sn y=false/\ow y=some z)
structure Half(G:Ed)(x:Int)(ow:Ow)(sn:Sn)(k:Nat)(sk:Sn):Prop where
 grow:∀ y,sn y=true->sk y=true
 near:∀ p∈G.take k,p.1=x->sk p.2=true
 closed:∀ y,sk y=true->sn y=false->∃ o,ow y=some o/\∀ p∈G,p.1=o->sk p.2=true
variable {G:Ed} {x:Int} {ow ow2:Ow} {sn sk sk2:Sn} {k:Nat} {p:Int×Int} {o:Int}
theorem Half.start:Half G x ow sn 0 sn:=⟨fun _ h=>h,fun p a=>by simp at a,fun y h h'=>by rw[h]at h';cases h'⟩
theorem take_succ(b:G[k]?=some p):∀ q∈G.take (k+1),q∈G.take k\/q=p:=fun q a=>by
 rw[List.take_add_one,b]at a;simpa using a
theorem Half.skip(h:Half G x ow sn k sk)(a:G[k]?=some p)(c:p.1=x->sk p.2=true):Half G x ow sn (k+1) sk :=
 ⟨h.grow,fun q b e=>by
  rcases take_succ a q b with g|rfl
  ·exact h.near q g e
  ·exact c e,h.closed⟩
theorem Half.stop(h:Half G x ow sn G.length sk):Srch G x ow sn ow sk false :=
 ⟨h.grow,fun _ _=>rfl,fun _=>⟨rfl,fun q a e=>h.near q (by rw[List.take_length];exact a) e,h.closed⟩,(fun e=>by cases e),fun e=>by cases e⟩
theorem Half.miss(h:Half G x ow sn k sk)(i:G[k]?=some p)(l:sk p.2=false)(f:ow p.2=some o)(r:Srch G o ow (setS sk p.2) ow2 sk2 false):ow2=ow/\Half G x ow sn (k+1) sk2:=by
 obtain⟨e,f1,f2⟩:=r.fail rfl;have up:∀ y,sk y=true->sk2 y=true:=fun y c=>r.grow y (Uf c);have at_:sk2 p.2=true:=r.grow _ (by simp[setS]);refine⟨e,fun y c=>up y (h.grow y c),fun q d e=>?_,fun y h1 h2=>?_⟩
 ·rcases take_succ i q d with g|rfl
  ·exact up _ (h.near q g e)
  ·exact at_
 ·by_cases c:sk y=true
  ·obtain⟨j,a,b⟩:=h.closed y c h2;exact⟨j,a,fun q d e=>up _ (b q d e)⟩
  ·by_cases e:y=p.2
   ·subst e;exact⟨o,f,f1⟩
   ·refine f2 y h1 ?_;simp only[setS,if_neg e];simpa using c
theorem Half.free(h:Half G x ow sn k sk)(o:G[k]?=some p)(q:p.1=x)(j:sk p.2=false)(n:ow p.2=none):Srch G x ow sn (setO ow p.2 x) (setS sk p.2) true:=by
 have c:sn p.2=false:=by
  cases e:sn p.2 with
  | false=>rfl
  | true=>rw[h.grow _ e]at j;cases j
 refine⟨fun y i=>?_,fun y i=>?_,(fun e=>by cases e),fun _ y z g=>?_,fun _ m f=>⟨fun y l z h1 h2 h3 d=>?_,fun z=>⟨?_,?_⟩⟩⟩
 ·exact Uf (h.grow y i)
 ·unfold setO;rw[if_neg];rintro rfl;rw[i]at c;cases c
 ·unfold setO at g;split at g
  ·rename_i e;subst e;cases g;exact .inr (by rw[<- q];exact List.mem_of_getElem? o)
  ·exact .inl g
 ·unfold setO at h3 d;split at h3<;>split at d
  ·rename_i a b;exact a.trans b.symm
  ·cases h3;exact absurd d (f l h2)
  ·cases d;exact absurd h3 (f y h1)
  ·exact m y l z h1 h2 h3 d
 ·rintro⟨y,h1,h2⟩;unfold setO at h2;split at h2
  ·cases h2;exact .inl rfl
  ·exact .inr ⟨y,h1,h2⟩
 ·rintro(rfl|⟨y,h1,h2⟩)
  ·exact⟨p.2,c,by simp[setO]⟩
  ·refine⟨y,h1,?_⟩;unfold setO;rw[if_neg]
   ·exact h2
   ·rintro rfl;rw[n]at h2;cases h2
theorem Half.take(h:Half G x ow sn k sk)(J:G[k]?=some p)(K:p.1=x)(E:sk p.2=false)(u:ow p.2=some o)(r:Srch G o ow (setS sk p.2) ow2 sk2 true):Srch G x ow sn (setO ow2 p.2 x) sk2 true:=by
 have i:sn p.2=false:=by
  cases e:sn p.2 with
  | false=>rfl
  | true=>rw[h.grow _ e]at E;cases E
 have up:∀ y,sk y=true->sk2 y=true:=fun y n=>r.grow y (Uf n);have keep:∀ y,sk y=true->ow2 y=ow y:=fun y n=>r.keep y (Uf n);have f:∀ {y},sk y=false->sn y=false:=fun {y} n=>by
  cases e:sn y with
  | false=>rfl
  | true=>rw[h.grow _ e]at n;cases n
 have s1:∀ {y},y≠p.2->setS sk p.2 y=sk y:=fun {y} e=>by unfold setS;rw[if_neg e]
 have f1:∀ {y},setS sk p.2 y=false->y≠p.2/\sk y=false:=fun {y} e=>by
  unfold setS at e;split at e
  ·cases e
  ·exact⟨by assumption,e⟩
 refine⟨fun y n=>up y (h.grow y n),fun y n=>?_,(fun e=>by cases e),fun _ y z w=>?_,fun _ t q=>?_⟩
 ·unfold setO;rw[if_neg]
  ·exact keep y (h.grow y n)
  ·rintro rfl;rw[n]at i;cases i
 ·unfold setO at w;split at w
  ·rename_i e;subst e;cases w;exact .inr (by rw[<- K];exact List.mem_of_getElem? J)
  ·exact r.valid rfl y z w
 ·have A:InjOn (setS sk p.2) ow:=fun y c z h1 h2=>t y c z (f (f1 h1).2) (f (f1 h2).2);have B:∀ y,setS sk p.2 y=false->ow y≠some o:=fun y h1 h2=>(f1 h1).1 (t y p.2 o (f (f1 h1).2) i h2 u);obtain⟨i2,C⟩:=r.inj rfl A B
  -- H a place F L not seen by M caller is owned by
  have cls:∀ {y},sn y=false->y≠p.2->(sk y=true/\ow2 y=ow y)\/setS sk p.2 y=false:=fun {y} h1 h2=>by
   cases e:sk y with
   | true=>exact .inl ⟨rfl,keep y e⟩
   | false=>exact .inr (by rw[s1 h2];exact e)
  have back:∀ {y z},setS sk p.2 y=false->ow2 y=some z->z=o\/∃ c,setS sk p.2 c=false/\ow c=some z:=fun {y z} h1 h2=>(C z).1 ⟨y,h1,h2⟩;have nx:∀ {y},sn y=false->y≠p.2->ow2 y≠some x:=fun {y} h1 h2 h3=>by
   rcases cls h1 h2 with⟨_,e⟩|e
   ·rw[e]at h3;exact q y h1 h3
   ·rcases back e h3 with rfl|⟨c,d,l⟩
    ·exact q p.2 i u
    ·exact q c (f (f1 d).2) l
  have m:∀ {y c z},sn y=false->y≠p.2->sk y=true->ow y=some z->setS sk p.2 c=false->ow2 c=some z->False:=fun {y c z} h1 h2 h3 j h5 I=>by
   rcases back h5 I with rfl|⟨D,d,l⟩
   ·exact h2 (t y p.2 z h1 i j u)
   ·have e:=t y D z h1 (f (f1 d).2) j l;subst e;rw[(f1 d).2]at h3;cases h3
  refine⟨fun y c z h1 h2 h3 j=>?_,fun z=>⟨?_,?_⟩⟩
  ·unfold setO at h3 j;split at h3<;>split at j
   ·rename_i a b;exact a.trans b.symm
   ·rename_i a b;cases h3;exact absurd j (nx h2 b)
   ·rename_i a b;cases j;exact absurd h3 (nx h1 a)
   ·rename_i a b;rcases cls h1 a with⟨d,l⟩|d<;>rcases cls h2 b with⟨s,v⟩|s
    ·rw[l]at h3;rw[v]at j;exact t y c z h1 h2 h3 j
    ·rw[l]at h3;exact(m h1 a d h3 s j).elim
    ·rw[v]at j;exact(m h2 b s j d h3).elim
    ·exact i2 y c z d s h3 j
  ·rintro⟨y,h1,h2⟩;unfold setO at h2;split at h2
   ·cases h2;exact .inl rfl
   ·rename_i a;rcases cls h1 a with⟨d,l⟩|d
    ·rw[l]at h2;exact .inr ⟨y,h1,h2⟩
    ·rcases back d h2 with rfl|⟨c,s,v⟩
     ·exact .inr ⟨p.2,i,u⟩
     ·exact .inr ⟨c,f (f1 s).2,v⟩
  ·rintro(rfl|⟨y,h1,h2⟩)
   ·exact⟨p.2,i,by simp[setO]⟩
   ·by_cases e:y=p.2
    ·subst e;rw[u]at h2;cases h2;obtain⟨c,d,l⟩:=(C o).2 (.inl rfl);exact⟨c,f (f1 d).2,by unfold setO;rw[if_neg (f1 d).1];exact l⟩
    ·cases g:sk y with
     | true=>exact⟨y,h1,by unfold setO;rw[if_neg e,keep y g];exact h2⟩
     | false =>
      obtain⟨c,d,l⟩:=(C z).2 (.inr ⟨y,by rw[s1 e];exact g,h2⟩);exact⟨c,f (f1 d).2,by unfold setO;rw[if_neg (f1 d).1];exact l⟩
structure Best(G:Ed)(A:List Int)(ow:Ow)(n:Nat):Prop where
 pairs:∃ E:Ed,E.length=n/\(∀ e∈E,e∈G/\e.1∈A)/\(E.map (·.1)).Nodup/\(E.map (·.2)).Nodup/\∀ x y,ow y=some x↔(x,y)∈E
 cov:∃ L R:List Int,L.length+R.length<=n/\∀ p∈G,p.1∈A->p.1∈L\/p.2∈R
theorem Best.start:Best G [] (fun _=>none) 0:=⟨⟨[],rfl,fun _ h=>by simp at h,List.nodup_nil,List.nodup_nil,fun x y=>by simp⟩,[],[],Nat.le_refl _,fun p _ h=>by simp at h⟩
theorem choose(ow:Ow):∀ l:List Int,(∀ x∈l,∃ y,ow y=some x)->∃ E:Ed,E.map (·.1)=l/\∀ e∈E,ow e.2=some e.1
 | [],_=>⟨[],rfl,fun e h=>by simp at h⟩
 | x::l,h=>by
  obtain⟨y,a⟩:=h x (by simp);obtain⟨E,h1,h2⟩:=choose ow l fun z b=>h z (by simp[b]);refine⟨(x,y)::E,by simp[h1],fun e he=>?_⟩;rcases List.mem_cons.1 he with rfl|he
  ·exact a
  ·exact h2 e he
theorem nodup_snd{ow:Ow}:∀ {E:Ed},(E.map (·.1)).Nodup->(∀ e∈E,ow e.2=some e.1)->(E.map (·.2)).Nodup
 | [],_,_=>List.nodup_nil
 | e::E,h,b=>by
  rw[List.map_cons,List.nodup_cons]at h ⊢;refine⟨fun hm=>?_,nodup_snd h.2 fun q a=>b q (by simp[a])⟩;obtain⟨q,a,c⟩:=List.mem_map.1 hm;have h1:=b q (by simp[a]);rw[c,b e (by simp)]at h1;exact h.1 (List.mem_map.2 ⟨q,a,(Option.some.inj h1).symm⟩)
theorem nodup_fst_inj{E:Ed}(h:(E.map (·.1)).Nodup){x y c:Int}(h1:(x,y)∈E)(h2:(x,c)∈E):y=c:=by
 induction E with
 | nil=>simp at h1
 | cons e E d =>
  rw[List.map_cons,List.nodup_cons]at h;rcases List.mem_cons.1 h1 with b|b<;>rcases List.mem_cons.1 h2 with a|a
  ·rw[<- b]at a;exact(congrArg Prod.snd a).symm
  ·exact absurd (List.mem_map.2 ⟨_,a,by rw[<- b]⟩) h.1
  ·exact absurd (List.mem_map.2 ⟨_,b,by rw[<- a]⟩) h.1
  ·exact d h.2 b a
variable {A:List Int} {n:Nat} {a:Int} {ow':Ow} {sn':Sn} {b:Bool}
theorem Best.inj(h:Best G A ow n):InjOn (fun _=>false) ow:=by
 obtain⟨E,_,_,h1,_,h3⟩:=h.pairs;exact fun y c x _ _ a b=>nodup_fst_inj h1 ((h3 x y).1 a) ((h3 x c).1 b)
theorem Best.step(h:Best G A ow n)(N:a∉A)(s:Srch G a ow (fun _=>false) ow' sn' b):Best G (A++[a]) ow' (if b then n+1 else n):=by
 obtain⟨E,O,i,D,M,k⟩:=h.pairs;obtain⟨L,R,U,hc⟩:=h.cov;have F:∀ y,ow y≠some a:=fun y d=>N (i _ ((k a y).1 d)).2;cases b with
 | true =>
  obtain⟨i2,P⟩:=s.inj rfl h.inj fun y _=>F y;have v:=s.valid rfl;have r:∀ x∈a::E.map (·.1),∃ y,ow' y=some x:=fun x K=>by
   have:x=a\/∃ y,(fun _:Int=>false) y=false/\ow y=some x:=by
    rcases List.mem_cons.1 K with g|g
    ·exact .inl g
    ·obtain⟨q,j,rfl⟩:=List.mem_map.1 g;exact .inr ⟨q.2,rfl,(k q.1 q.2).2 j⟩
   obtain⟨y,_,d⟩:=(P x).2 this;exact⟨y,d⟩
  obtain⟨E',h1,h2⟩:=choose ow' _ r;have u:(E'.map (·.1)).Nodup:=by
   rw[h1,List.nodup_cons];refine⟨fun hm=>?_,D⟩;obtain⟨q,j,I⟩:=List.mem_map.1 hm;exact N (by rw[<- I];exact(i q j).2)
  refine⟨⟨E',?_,fun e he=>?_,u,nodup_snd u h2,fun x y=>⟨fun d=>?_,fun d=>h2 _ d⟩⟩,a::L,R,?_,fun p f c=>?_⟩
  ·have:=congrArg List.length h1;simp only[List.length_map,List.length_cons]at this;rw[this,O];rfl
  ·have t:e.1∈a::E.map (·.1):=by rw[<- h1];exact List.mem_map.2 ⟨e,he,rfl⟩
   refine⟨?_,?_⟩
   ·rcases v e.2 e.1 (h2 e he) with g|g
    ·exact(i _ ((k _ _).1 g)).1
    ·exact g
   ·rcases List.mem_cons.1 t with g|g
    ·rw[g];simp
    ·obtain⟨q,j,J⟩:=List.mem_map.1 g;rw[<- J];exact List.mem_append_left _ (i q j).2
  ·have K:x∈E'.map (·.1):=by
    rw[h1];rcases(P x).1 ⟨y,rfl,d⟩ with g|⟨Y,_,g⟩
    ·rw[g];simp
    ·exact List.mem_cons_of_mem _ (List.mem_map.2 ⟨_,(k x Y).1 g,rfl⟩)
   obtain⟨q,j,rfl⟩:=List.mem_map.1 K;have:=i2 q.2 y q.1 rfl rfl (h2 q j) d;rw[<- this];exact j
  ·simp only[List.length_cons];simp only[if_true];omega
  ·rw[List.mem_append,List.mem_singleton]at c;rcases c with g|g
   ·rcases hc p f g with g|g
    ·exact .inl (by simp[g])
    ·exact .inr g
   ·exact .inl (by rw[g];simp)
 | false =>
  obtain⟨rfl,f1,f2⟩:=s.fail rfl;simp only[Bool.false_eq_true,if_false];refine⟨⟨E,O,fun e he=>⟨(i e he).1,List.mem_append_left _ (i e he).2⟩,D,M,k⟩,?_⟩;let S:Sn:=sn';let T:Int->Bool:=fun x=>x==a||E.any fun e=>e.1==x&&S e.2;let z:=E.filter fun e=>S e.2;have W:∀ p∈G,T p.1=true->S p.2=true:=fun p f l=>by
   simp only[T,Bool.or_eq_true,beq_iff_eq,List.any_eq_true,Bool.and_eq_true]at l;rcases l with g|⟨e,he,o,B⟩
   ·exact f1 p f g
   ·obtain⟨m,h1,h2⟩:=f2 e.2 B rfl;rw[(k e.1 e.2).2 he]at h1;cases h1;exact h2 p f o.symm
  have V:∀ y,S y=true->∃ m,(m,y)∈z:=fun y d=>by
   obtain⟨m,h1,_⟩:=f2 y d rfl;exact⟨m,List.mem_filter.2 ⟨(k m y).1 h1,d⟩⟩
  have hw:z.length<=(L.filter T).length+(R.filter S).length:=by
   refine weakL (Zv _ D) (Zv _ M) fun p f=>?_;obtain⟨o,B⟩:=List.mem_filter.1 f;rcases hc p (i p o).1 (i p o).2 with g|g
   ·refine .inl (List.mem_filter.2 ⟨g,?_⟩);simp only[T,Bool.or_eq_true,List.any_eq_true,Bool.and_eq_true,beq_iff_eq];exact .inr ⟨p,o,rfl,B⟩
   ·exact .inr (List.mem_filter.2 ⟨g,B⟩)
  have Z:=Dj T L;have sR:=Dj S R;refine⟨L.filter (fun x=>!T x),z.map (·.2)++R.filter fun y=>!S y,?_,fun p f c=>?_⟩
  ·rw[List.length_append,List.length_map];omega
  ·have w:S p.2=true->p.2∈z.map (·.2)++R.filter fun y=>!S y:=fun C=>by
    obtain⟨m,X⟩:=V p.2 C;exact List.mem_append_left _ (List.mem_map.2 ⟨_,X,rfl⟩)
   cases l:T p.1 with
   | true=>exact .inr (w (W p f l))
   | false =>
    have H:p.1≠a:=fun e=>by simp[T,e]at l
    have Q:p.1∈A:=by
     rw[List.mem_append,List.mem_singleton]at c;exact c.resolve_right H
    rcases hc p f Q with g|g
    ·exact .inl (List.mem_filter.2 ⟨g,by rw[l];rfl⟩)
    ·cases C:S p.2 with
     | true=>exact .inr (w C)
     | false=>exact .inr (List.mem_append_right _ (List.mem_filter.2 ⟨g,by rw[C];rfl⟩))
theorem Best.done(h:Best G A ow n)(f:∀ p∈G,p.1∈A):Mat G n/\Cov G n:=by
 obtain⟨E,i,g,c,d,_⟩:=h.pairs;obtain⟨L,R,a,hc⟩:=h.cov;exact⟨⟨E,i,fun e he=>(g e he).1,c,d⟩,L,R,a,fun p b=>hc p b (f p b)⟩
theorem struck_ge{l r:List Int}(hm:Mat G n)(hr:∀ p∈G,p.1∉l->p.2∈r):n<=l.length+r.length :=
 weak hm ⟨l,r,Nat.le_refl _,fun p a=>by
  by_cases e:p.1∈l
  ·exact .inl e
  ·exact .inr (hr p a e)⟩
theorem struck_some(hc:Cov G n)(e:A.Nodup)(c:∀ p∈G,p.1∈A):∃ l:List Int,l.Sublist A/\∀ r:List Int,r.Nodup->(∀ y∈r,∃ p∈G,p.1∉l/\p.2=y)->l.length+r.length<=n:=by
 obtain⟨L,R,f,h⟩:=hc;refine⟨A.filter fun x=>decide (x∈L),List.filter_sublist,fun r hr i=>?_⟩;have a:=Z2 (b:=L) (List.Nodup.sublist (List.filter_sublist (p:=fun x=>decide (x∈L))) e) fun x g=>of_decide_eq_true (List.mem_filter.1 g).2;have b:=Z2 (b:=R) hr fun y h1=>by
  obtain⟨p,d,h2,rfl⟩:=i y h1;refine(h p d).resolve_left fun h3=>h2 (List.mem_filter.2 ⟨c p d,decide_eq_true h3⟩)
 omega
end Go.TM.Ma
end
section
namespace Go.Y
set_option linter.unusedVariables false
variable {X:XP} {h:LH} {A:Value->LH->Prop}
variable {a b c d e f g i j k l m:Int}{n o p q r s t u v w x y z:Nat}{B C D E F G H I J K L M:Option Addr}
theorem w3201:FX X 119 #[.agg #[.slice B n o,.slice C p q,.slice D r s],a,b,c] h A (.new 3 #[a] fun j=>.new 3 #[b] fun e=>.new 3 #[c] fun f=>.li ⟨e,0,none⟩ fun d=>.li ⟨f,0,none⟩ fun i=>bif d==i then .rt (.int .i64 5) else .cI 164 #[.slice D r s,.func (Fn.func 165) #[] #[.pointer (some ⟨j,0,none⟩),.pointer (some ⟨e,0,none⟩),.pointer (some ⟨f,0,none⟩)]] fun d=>bif decide (d<0) then .rt (.int .i64 0) else .need (0<=d/\d<(↑r:Int)) (.someA D fun g=>.li ((g.add (d.toNat*4)).add 3) fun d=>.rt (.int .i64 d))):=fk [4] [] [] Tryz.f119
theorem w3231{e:Value}:FX X 164 #[.slice B n o,e] h A (.loop [.int .i64 0,.int .i64 0] (fun a=>.pi a fun c a=>.pi a fun b a=>.unNil a (bif decide (b<(↑n:Int)) then .need (0<=b/\b<(↑n:Int)) (.someA B fun d=>.li ((d.add (b.toNat*4)).add 0) fun g=>.li ((d.add (b.toNat*4)).add 1) fun i=>.li ((d.add (b.toNat*4)).add 2) fun j=>.li ((d.add (b.toNat*4)).add 3) fun k=>.callv false e #[.agg #[g,i,j,k]] fun l=>.unB l fun f=>bif f then .rn [b,b] else .ag [c,.int .i64 (wrap .i64 (b+1))]) else .bk [c,b])) (fun a=>.pi a fun c a=>.pi a fun c a=>.unNil a (.rt (.int .i64 (-1)))) (fun a=>.pi a fun c a=>.pi a fun b a=>.unNil a (.rt (.int .i64 c))) fun m p=>.fail):=fk [] [⟨0,[(4,.int .i64),(8,.int .i64)],[],[],[],[]⟩] [] Tryz.f164
theorem w3232{k:Addr}{f:Addr}{g:Addr}:FX X 165 #[.agg #[a,b,c,d],.pointer (some k),.pointer (some f),.pointer (some g)] h A (.li k fun e=>bif a==e then .li f fun e=>.li g fun i=>bif b==if i<e then i else e then .li f fun e=>.li g fun j=>.rt (.bool (c==if j>e then j else e)) else .rt (.bool false) else .rt (.bool false)):=fk [4] [] [] Tryz.f165
theorem w3188:FX X 74 #[.agg #[.slice B n o,.slice C p q,.slice D r s],a,.slice E t u,.slice F v w,b] h A (.sem false (Instr.buildSlice 248 2 #[(0,.slice E t u),(1,.slice F v w)]) fun f=>.unS f fun c e d=>.cT 111 #[.agg #[.slice B n o,.slice C p q,.slice D r s],a,.slice c e d] fun f y=>.unAgg f fun G=>.popS G fun c e d H=>.popS H fun g l j I=>.popS I fun i m k J=>.unNil J (.unCons y fun f y=>.ui f fun x=>.unNil y (bif x==0 then .cB 122 #[b,.int .i64 1,.int .i64 5] fun z=>bif !z then .rt (.tuple #[.agg #[.slice c e d,.slice g l j,.slice i m k,a,b,.slice E t u,.slice F v w],.int .i64 1]) else .rt (.tuple #[.agg #[.slice c e d,.slice g l j,.slice i m k,a,b,.slice E t u,.slice F v w],x]) else .rt (.tuple #[.agg #[.slice c e d,.slice g l j,.slice i m k,a,b,.slice E t u,.slice F v w],x])))):=fk [5,10,12] [] [] Tryz.f74
theorem w3189{a:Value}:FX X 75 #[a] h A (.cl 123 #[.slice none 0 0,a] fun e=>.unS e fun b d c=>.rt (.slice b d c)):=fk [] [] [] Tryz.f75
theorem w3190{c:Nat}:FX X 76 #[.agg #[.slice B n o,.slice C p q,.slice D r s,a,b,.slice E t u,.slice F v w],.slice G x y,.slice H z c] h A (.new 145 #[.slice B n o,.slice C p q,.slice D r s,a,b,.slice E t u,.slice F v w] fun d=>.new 30 #[.slice G x y] fun e=>.new 30 #[.slice H z c] fun f=>.rt (.func (Fn.func 124) #[] #[.pointer (some ⟨d,0,none⟩),.pointer (some ⟨e,0,none⟩),.pointer (some ⟨f,0,none⟩)])):=fk [] [] [] Tryz.f76
theorem w3211{f:Value}:FX X 123 #[.slice B n o,f] h A (.each f [.slice B n o] (fun r a=>.unCons r fun e m=>.unAgg e fun j=>.pi j fun b p=>.pi p fun k q=>.unNil q (.unNil m (.popS a fun c l d a=>.unNil a (.sem false (Instr.buildSlice 98 1 #[(0,.agg #[b,k])]) fun e=>.unS e fun g b i=>.sem false (Builtin.append_ #[98,98] 98 #[.slice c l d,.slice g b i]) fun e=>.unS e fun c b d=>.ag [.slice c b d])))) (fun a=>.popS a fun c b d a=>.unNil a (.rt (.slice c b d))) (fun a=>.popS a fun c b d a=>.unNil a (.rt (.slice c b d))) (fun a=>.popS a fun c b d a=>.unNil a (.rt (.slice none 0 0))) fun s t=>.fail):=fk [2,5] [{ id:=0,slots:=[(12288,.slice)],ro:=[],outs:=[],ps:=[.agg [.int .i64,.int .i64]] }] [] Tryz.f123
theorem w3212{n:Value}{b:Addr}{o:Addr}{p:Addr}:FX X 124 #[n,.pointer (some b),.pointer (some o),.pointer (some p)] h A (.loadS (b.add 5) fun e c g=>.loop [.int .i64 0] (fun a=>.pi a fun i a=>.unNil a (bif decide (i<(↑c:Int)) then .need (0<=i/\i<(↑c:Int)) (.someA e fun j=>.li (j.add (i.toNat*1)) fun c=>.loadS (b.add 6) fun e m g=>.loop [.int .i64 0] (fun a=>.pi a fun d a=>.unNil a (bif decide (d<(↑m:Int)) then .need (0<=d/\d<(↑m:Int)) (.someA e fun j=>.li (j.add (d.toNat*1)) fun k=>.loadS o fun e v g=>.cB 125 #[.slice e v g,c] fun f=>bif f then .nds [.U,.U,.U,.U,true,.U,.U,.U,true] (.ag [.int .i64 (wrap .i64 (d+1))]) else .loadS p fun e w g=>.cB 125 #[.slice e w g,k] fun f=>bif f then .nds [.U,.U,.U,.U,f,.U,.U,.U,f] (.ag [.int .i64 (wrap .i64 (d+1))]) else .loadS ((b.add 0).add 0) fun e x g=>.loadS ((b.add 0).add 1) fun B y q=>.loadS ((b.add 0).add 2) fun C z r=>.li (b.add 3) fun s=>.li (b.add 4) fun l=>.cI 119 #[.agg #[.slice e x g,.slice B y q,.slice C z r],s,c,k] fun t=>.li (b.add 4) fun u=>.ne u l (.nds [.O (b.add 4),.O (b.add 3),.O (b.add 0),f] (bif decide (t<l) then .ag [.int .i64 (wrap .i64 (d+1))] else .callv false n #[.agg #[c,k]] fun D=>.unB D fun f=>bif !f then .rn [d] else .ag [.int .i64 (wrap .i64 (d+1))]))) else .bk [d])) (fun a=>.pi a fun c a=>.unNil a (.ag [.int .i64 (wrap .i64 (i+1))])) (fun a=>.pi a fun c a=>.unNil a (.rn [i])) fun E F=>.fail) else .bk [i])) (fun a=>.pi a fun c a=>.unNil a (.rt (.tuple #[]))) (fun a=>.pi a fun c a=>.unNil a (.rt (.tuple #[]))) fun E F=>.fail):=fk [] [⟨2,[(19,.int .i64)],[],[],[],[]⟩,⟨0,[(12,.int .i64)],[],[],[],[]⟩] [] Tryz.f124
theorem w3213{p:Addr}{l:Addr}{k:Addr}{q:Addr}:FX X 126 #[a,.pointer (some p),.pointer (some l),.pointer (some k),.pointer (some q)] h A (.loadS p fun d g u=>.loop [false,.int .i64 0] (fun b=>.popB b fun f b=>.pi b fun c b=>.unNil b (bif decide (c<(↑g:Int)) then .need (0<=c/\c<(↑g:Int)) (.someA d fun n=>.li ((n.add (c.toNat*2)).add 0) fun g=>.li ((n.add (c.toNat*2)).add 1) fun i=>.blk (bif g != a then .leaf (.out 1 []) else .loadM l fun d=>.sem false (Instr.lookup 163 (.map d) (.int .i64 i) false) fun e=>.unB e fun f=>bif f then .leaf (.out 1 []) else .ag []) (fun b=>.unNil b (.loadM l fun d=>.sem false (Sem.bind (Instr.mapUpdate 163 (.map d) (.int .i64 i) (.bool true)) fun m=>pure (.tuple #[])) fun j=>.loadM k fun d=>.sem false (Instr.lookup 218 (.map d) (.int .i64 i) true) fun e=>.unTup e fun t=>.unCons t fun e b=>.ui e fun g=>.unCons b fun e b=>.unB e fun r=>.unNil b (bif !r then .loadM k fun d=>.sem false (Sem.bind (Instr.mapUpdate 218 (.map d) (.int .i64 i) (.int .i64 a)) fun m=>pure (.tuple #[])) fun j=>.rn [true,c] else .loadV q fun e=>.callv false e #[g] fun e=>.unB e fun s=>bif s then .loadM k fun d=>.sem false (Sem.bind (Instr.mapUpdate 218 (.map d) (.int .i64 i) (.int .i64 a)) fun m=>pure (.tuple #[])) fun j=>.rn [true,c] else .ag [f,.int .i64 (wrap .i64 (c+1))]))) (fun b=>.unNil b (.rn [f,c])) fun j o=>bif Nat.beq j 1 then .unNil o (.ag [f,.int .i64 (wrap .i64 (c+1))]) else .fail) else .bk [f,c])) (fun b=>.popB b fun f b=>.pi b fun g b=>.unNil b (.rt (.bool false))) (fun b=>.popB b fun f b=>.pi b fun g b=>.unNil b (.rt (.bool f))) fun j o=>.fail):=fk [8] [⟨0,[(6,.bool),(13,.int .i64)],[],[],[],[]⟩] [⟨5,[],[8],[1],[],[]⟩] Tryz.f126
theorem w3191:FX X 77 #[.agg #[.slice B n o,.slice C p q,.slice D r s,a,b,.slice E t u,.slice F v w],.slice G x y] h A (.new 98 #[.slice G x y] fun z=>.sem false (Instr.makeMap 218 none) fun f=>.unM f fun g=>.new 218 #[.map none] fun j=>.store (Addr.add ⟨j,0,none⟩ 0) (.map g) (.loop [.int .i64 0,.int .i64 0] (fun c=>.pi c fun e c=>.pi c fun d c=>.unNil c (bif decide (d<(↑t:Int)) then .need (0<=d/\d<(↑t:Int)) (.someA E fun g=>.li (g.add (d.toNat*1)) fun m=>.sem false (Instr.makeMap 163 none) fun f=>.unM f fun g=>.new 163 #[.map none] fun k=>.store (Addr.add ⟨k,0,none⟩ 0) (.map g) (.new 115 #[Value.nilFunc] fun i=>.store (Addr.add ⟨i,0,none⟩ 0) (.func (Fn.func 126) #[] #[.pointer (some ⟨z,0,none⟩),.pointer (some ⟨k,0,none⟩),.pointer (some ⟨j,0,none⟩),.pointer (some ⟨i,0,none⟩)]) (.loadV ⟨i,0,none⟩ fun f=>.callv false f #[m] fun f=>.unB f fun l=>bif l then .ag [.int .i64 (wrap .i64 (e+1)),.int .i64 (wrap .i64 (d+1))] else .ag [e,.int .i64 (wrap .i64 (d+1))]))) else .bk [e,d])) (fun c=>.pi c fun e c=>.pi c fun d c=>.unNil c (.rt (.int .i64 e))) (fun c=>.pi c fun e c=>.pi c fun e c=>.unNil c (.rt (.int .i64 0))) fun H I=>.fail)):=fk [2] [⟨0,[(6,.int .i64),(15,.int .i64)],[2],[],[],[]⟩] [] Tryz.f77
theorem w3192:FX X 78 #[.agg #[.slice B n o,.slice C p q,.slice D r s,a,b,.slice E t u,.slice F v w],.slice G x y] h A (.cl 76 #[.agg #[.slice B n o,.slice C p q,.slice D r s,a,b,.slice E t u,.slice F v w],.slice G x y,.slice none 0 0] fun d=>.each d [.slice none 0 0] (fun I e=>.unCons I fun d m=>.unAgg d fun i=>.pi i fun c z=>.pi z fun c H=>.unNil H (.unNil m (.popS e fun f l g e=>.unNil e (.sem false (Instr.buildSlice 30 1 #[(0,.int .i64 c)]) fun d=>.unS d fun j c k=>.sem false (Builtin.append_ #[30,30] 30 #[.slice f l g,.slice j c k]) fun d=>.unS d fun f c g=>.ag [.slice f c g])))) (fun e=>.popS e fun f c g e=>.unNil e (.cl 127 #[.slice f c g] fun d=>.unTup d fun i=>.unNil i (.cl 128 #[.slice f c g] fun d=>.unS d fun f c g=>.rt (.slice f c g)))) (fun e=>.popS e fun f c g e=>.unNil e (.cl 127 #[.slice f c g] fun d=>.unTup d fun i=>.unNil i (.cl 128 #[.slice f c g] fun d=>.unS d fun f c g=>.rt (.slice f c g)))) (fun e=>.popS e fun f c g e=>.unNil e (.rt (.slice none 0 0))) fun J K=>.fail):=fk [2,5,6] [{ id:=0,slots:=[(24576,.slice)],ro:=[2],outs:=[],ps:=[.agg [.int .i64,.int .i64]] }] [] Tryz.f78
theorem w3193:FX X 80 #[.agg #[.slice B n o,.slice C p q,.slice D r s,a,b,.slice E t u,.slice F v w],.slice G x y,c] h A (.loop [.slice G x y,.slice none 0 0] (fun d=>.popS d fun e f g d=>.popS d fun K J L d=>.unNil d (bif decide ((↑J:Int)<c) then .loop [.slice e f g,.slice K J L,.int .i64 0] (fun d=>.popS d fun j l g d=>.popS d fun I z k d=>.pi d fun i d=>.unNil d (bif decide (i<(↑f:Int)) then .need (0<=i/\i<(↑f:Int)) (.someA e fun e=>.li ((e.add (i.toNat*2)).add 0) fun f=>.li ((e.add (i.toNat*2)).add 1) fun U=>.new 150 #[.int .i64 0,.int .i64 0] fun H=>.store (Addr.add ⟨H,0,none⟩ 0) (.int .i64 f) (.store (Addr.add ⟨H,0,none⟩ 1) (.int .i64 U) (.sem false (Instr.sliceAt 98 (.slice j l g) (some (.int .i64 (wrap .i64 (i+1)))) none none) fun a0=>.unS a0 fun e f Q=>.cl 131 #[.slice e f Q] fun m=>.unS m fun e f R=>.cl 130 #[.slice e f R,.func (Fn.func 132) #[] #[.pointer (some ⟨H,0,none⟩)]] fun m=>.unS m fun e f M=>.cI 77 #[.agg #[.slice B n o,.slice C p q,.slice D r s,a,b,.slice E t u,.slice F v w],.slice e f M] fun V=>bif decide (V>=wrap .i64 (wrap .i64 (c-(↑z:Int))-1)) then .li (Addr.add ⟨H,0,none⟩ 0) fun W=>.li (Addr.add ⟨H,0,none⟩ 1) fun Y=>.sem false (Instr.buildSlice 98 1 #[(0,.agg #[W,Y])]) fun m=>.unS m fun N Z g=>.sem false (Builtin.append_ #[98,98] 98 #[.slice I z k,.slice N Z g]) fun m=>.unS m fun O S g=>.bk [.slice e f M,.slice O S g,i] else .ag [.slice j l g,.slice I z k,.int .i64 (wrap .i64 (i+1))]))) else .bk [.slice j l g,.slice I z k,i])) (fun d=>.popS d fun e f g d=>.popS d fun j l k d=>.pi d fun z d=>.unNil d (.ag [.slice e f g,.slice j l k])) (fun d=>.popS d fun e f g d=>.popS d fun j l k d=>.pi d fun z d=>.unNil d (.rn [.slice e f g,.slice j l k])) fun b0 c0=>.fail else .bk [.slice e f g,.slice K J L])) (fun d=>.popS d fun e f g d=>.popS d fun e f g d=>.unNil d (.rt (.slice e f g))) (fun d=>.popS d fun e f g d=>.popS d fun e f g d=>.unNil d (.rt (.slice none 0 0))) fun b0 c0=>.fail):=fk [3] [⟨2,[(1,.slice),(7,.slice),(17,.int .i64)],[3],[],[],[]⟩,⟨0,[(1,.slice),(7,.slice)],[3],[],[],[]⟩] [] Tryz.f80
def n3214(i:Option Addr)(g j:Nat):T:=bif decide ((↑g:Int)<2) then .rt (.slice i g j) else .loop [.slice none 0 0,.int .i64 1] (fun a=>.popS a fun b c f a=>.pi a fun e a=>.unNil a (bif decide (e<(↑g:Int)) then .need (0<=e/\e<(↑g:Int)) (.someA i fun p=>.li (p.add (e.toNat*1)) fun r=>.need (0<=wrap .i64 (e-1)/\wrap .i64 (e-1)<(↑g:Int)) (.someA i fun q=>.li (q.add ((wrap .i64 (e-1)).toNat*1)) fun s=>bif r==s then .sem false (Instr.sliceAt 30 (.slice i g j) (some (.int .i64 e)) none none) fun k=>.unS k fun n l w=>.loop [e,.int .i64 1] (fun a=>.pi a fun c a=>.pi a fun d a=>.unNil a (bif decide (d<(↑l:Int)) then .need (0<=d/\d<(↑l:Int)) (.someA n fun b=>.li (b.add (d.toNat*1)) fun m=>.need (0<=wrap .i64 (d-1)/\wrap .i64 (d-1)<(↑l:Int)) (.someA n fun b=>.li (b.add ((wrap .i64 (d-1)).toNat*1)) fun o=>bif m != o then .need (0<=d/\d<(↑l:Int)) (.someA n fun b=>.li (b.add (d.toNat*1)) fun t=>.need (0<=c/\c<(↑g:Int)) (.someA i fun b=>.store ((b.add (c.toNat*1)).add 0) (.int .i64 t) (.ag [.int .i64 (wrap .i64 (c+1)),.int .i64 (wrap .i64 (d+1))]))) else .ag [c,.int .i64 (wrap .i64 (d+1))])) else .bk [c,d])) (fun a=>.pi a fun c a=>.pi a fun d a=>.unNil a (.sem false (Instr.sliceAt 30 (.slice i g j) (some (.int .i64 c)) none none) fun k=>.unS k fun b m f=>.sem false (Builtin.clear_ #[30] 0 #[.slice b m f]) fun x=>.sem false (Instr.sliceAt 30 (.slice i g j) none (some (.int .i64 c)) none) fun k=>.unS k fun b o f=>.rn [.slice b o f,c])) (fun a=>.pi a fun d a=>.pi a fun m a=>.unNil a (.rn [.slice b c f,d])) fun u v=>.fail else .ag [.slice b c f,.int .i64 (wrap .i64 (e+1))])) else .bk [.slice b c f,e])) (fun a=>.popS a fun b c f a=>.pi a fun c a=>.unNil a (.rt (.slice i g j))) (fun a=>.popS a fun b c f a=>.pi a fun e a=>.unNil a (.rt (.slice b c f))) fun u v=>.fail
theorem w3214(sp:Option Addr)(sn sc:Nat):FX X 128 #[.slice sp sn sc] h A (n3214 sp sn sc):=fk [] [⟨2,[(3,.int .i64),(5,.int .i64)],[],[],[],[]⟩,⟨0,[(2,.slice),(3,.int .i64)],[],[],[],[]⟩] [] Tryz.f128
theorem w3215{g:Value}:FX X 130 #[.slice B n o,g] h A (.cI 175 #[.slice B n o,g] fun a=>bif a==-1 then .rt (.slice B n o) else .loop [a,.int .i64 (wrap .i64 (a+1))] (fun b=>.pi b fun a b=>.pi b fun d b=>.unNil b (bif decide (d<(↑n:Int)) then .need (0<=d/\d<(↑n:Int)) (.someA B fun c=>.li ((c.add (d.toNat*2)).add 0) fun e=>.li ((c.add (d.toNat*2)).add 1) fun j=>.callv false g #[.agg #[e,j]] fun k=>.unB k fun l=>bif !l then .need (0<=a/\a<(↑n:Int)) (.someA B fun c=>.store ((c.add (a.toNat*2)).add 0) (.int .i64 e) (.store ((c.add (a.toNat*2)).add 1) (.int .i64 j) (.ag [.int .i64 (wrap .i64 (a+1)),.int .i64 (wrap .i64 (d+1))]))) else .ag [a,.int .i64 (wrap .i64 (d+1))]) else .bk [a,d])) (fun b=>.pi b fun a b=>.pi b fun d b=>.unNil b (.sem false (Instr.sliceAt 98 (.slice B n o) (some (.int .i64 a)) none none) fun i=>.unS i fun c e f=>.sem false (Builtin.clear_ #[98] 0 #[.slice c e f]) fun k=>.sem false (Instr.sliceAt 98 (.slice B n o) none (some (.int .i64 a)) none) fun i=>.unS i fun c a f=>.rt (.slice c a f))) (fun b=>.pi b fun a b=>.pi b fun a b=>.unNil b (.rt (.slice none 0 0))) fun m p=>.fail):=fk [7] [⟨0,[(5,.int .i64),(6,.int .i64)],[],[],[],[]⟩] [] Tryz.f130
theorem w3216:FX X 131 #[.slice B n o] h A (.sem false (Sem.bind (eqGuard BinOp.eql 98 (Operand.tmp 3) (Operand.const (.slice none 0 0)) (.slice B n o) (.slice none 0 0)) fun f=>binOp BinOp.eql 98 (.slice B n o) (.slice none 0 0)) fun a=>.unB a fun e=>bif e then .rt (.slice none 0 0) else .sem false (Instr.buildSlice 98 0 #[]) fun a=>.unS a fun b d c=>.sem false (Builtin.append_ #[98,98] 98 #[.slice b d c,.slice B n o]) fun a=>.unS a fun b d c=>.rt (.slice b d c)):=fk [] [] [] Tryz.f131
theorem w3217{d:Addr}:FX X 132 #[.agg #[a,b],.pointer (some d)] h A (.li (d.add 0) fun c=>bif a==c then .rt (.bool true) else .li (d.add 1) fun c=>.rt (.bool (b==c))):=fk [2] [] [] Tryz.f132
theorem w3241{e:Value}:FX X 175 #[.slice B n o,e] h A (.loop [.int .i64 0,.int .i64 0] (fun a=>.pi a fun c a=>.pi a fun b a=>.unNil a (bif decide (b<(↑n:Int)) then .need (0<=b/\b<(↑n:Int)) (.someA B fun d=>.li ((d.add (b.toNat*2)).add 0) fun g=>.li ((d.add (b.toNat*2)).add 1) fun i=>.callv false e #[.agg #[g,i]] fun j=>.unB j fun f=>bif f then .rn [b,b] else .ag [c,.int .i64 (wrap .i64 (b+1))]) else .bk [c,b])) (fun a=>.pi a fun c a=>.pi a fun c a=>.unNil a (.rt (.int .i64 (-1)))) (fun a=>.pi a fun c a=>.pi a fun b a=>.unNil a (.rt (.int .i64 c))) fun k l=>.fail):=fk [] [⟨0,[(4,.int .i64),(8,.int .i64)],[],[],[],[]⟩] [] Tryz.f175
theorem w3164:FX X 38 #[.agg #[.slice B n o,.slice C p q,.slice D r s],a,.slice E t u,.slice F v w,b] h A (.cT 74 #[.agg #[.slice B n o,.slice C p q,.slice D r s],a,.slice E t u,.slice F v w,b] fun g c=>.unAgg g fun k0=>.popS k0 fun e d f l0=>.popS l0 fun J S N m0=>.popS m0 fun K U O o0=>.pi o0 fun V p0=>.pi p0 fun W q0=>.popS q0 fun L Y Q r0=>.popS r0 fun M Z R s0=>.unNil s0 (.unCons c fun g c=>.ui g fun b0=>.unNil c (bif b0 != 0 then .rt (.tuple #[.slice none 0 0,.slice none 0 0,.slice none 0 0,b0]) else .cl 76 #[.agg #[.slice e d f,.slice J S N,.slice K U O,V,W,.slice L Y Q,.slice M Z R],.slice none 0 0,.slice none 0 0] fun g=>.cl 75 #[g] fun g=>.unS g fun c0 f0 d0=>.cI 77 #[.agg #[.slice e d f,.slice J S N,.slice K U O,V,W,.slice L Y Q,.slice M Z R],.slice c0 f0 d0] fun g0=>.need (0<=(↑t:Int)) (.loop [.slice none 0 0,.slice none 0 0,.int .i64 0] (fun c=>.popS c fun j l k c=>.popS c fun y x G c=>.pi c fun m c=>.unNil c (bif decide (m<wrap .i64 (1*2^min (Int.toNat (↑t:Int)) 64)) then .loop [.slice none 0 0,.int .i64 0] (fun c=>.popS c fun e d f c=>.pi c fun i c=>.unNil c (bif decide (i<(↑t:Int)) then .need (0<=i/\i<(↑t:Int)) (.someA E fun z=>.li (z.add (i.toNat*1)) fun e0=>.need (0<=i) (bif wrap .i64 (↑(BitVec.toNat (BitVec.ofInt 64 (Int.fdiv m (2^min (i.toNat) 64)) &&& BitVec.ofInt 64 1)):Int)==1 then .sem false (Instr.buildSlice 30 1 #[(0,.int .i64 e0)]) fun g=>.unS g fun j0 I H=>.sem false (Builtin.append_ #[30,30] 30 #[.slice e d f,.slice j0 I H]) fun g=>.unS g fun e d f=>.ag [.slice e d f,.int .i64 (wrap .i64 (i+1))] else .ag [.slice e d f,.int .i64 (wrap .i64 (i+1))])) else .bk [.slice e d f,i])) (fun c=>.popS c fun z i H c=>.pi c fun e0 c=>.unNil c (.cl 78 #[.agg #[.slice e d f,.slice J S N,.slice K U O,V,W,.slice L Y Q,.slice M Z R],.slice z i H] fun g=>.unS g fun e d f=>bif wrap .i64 ((↑i:Int)+(↑d:Int))==g0 then bif m==0 then .ag [.slice z i H,.slice e d f,.int .i64 (wrap .i64 (m+1))] else .sem false (Sem.bind (eqGuard BinOp.eql 30 (Operand.tmp 77) (Operand.const (.slice none 0 0)) (.slice j l k) (.slice none 0 0)) fun i0=>binOp BinOp.eql 30 (.slice j l k) (.slice none 0 0)) fun g=>.unB g fun a0=>bif a0 then .sem false (Sem.bind (eqGuard BinOp.eql 30 (Operand.tmp 80) (Operand.const (.slice none 0 0)) (.slice y x G) (.slice none 0 0)) fun i0=>binOp BinOp.eql 30 (.slice y x G) (.slice none 0 0)) fun g=>.unB g fun a0=>bif a0 then .ag [.slice z i H,.slice e d f,.int .i64 (wrap .i64 (m+1))] else .cI 79 #[.slice z i H,.slice j l k] fun I=>bif decide (I<0) then .ag [.slice z i H,.slice e d f,.int .i64 (wrap .i64 (m+1))] else .ag [.slice j l k,.slice y x G,.int .i64 (wrap .i64 (m+1))] else .cI 79 #[.slice z i H,.slice j l k] fun I=>bif decide (I<0) then .ag [.slice z i H,.slice e d f,.int .i64 (wrap .i64 (m+1))] else .ag [.slice j l k,.slice y x G,.int .i64 (wrap .i64 (m+1))] else .ag [.slice j l k,.slice y x G,.int .i64 (wrap .i64 (m+1))])) (fun c=>.popS c fun e d f c=>.pi c fun d c=>.unNil c (.rn [.slice j l k,.slice y x G,m])) fun t0 u0=>.fail else .bk [.slice j l k,.slice y x G,m])) (fun c=>.popS c fun j l k c=>.popS c fun y x G c=>.pi c fun m c=>.unNil c (.cl 80 #[.agg #[.slice e d f,.slice J S N,.slice K U O,V,W,.slice L Y Q,.slice M Z R],.slice c0 f0 d0,g0] fun g=>.unS g fun e d f=>.rt (.tuple #[.slice j l k,.slice y x G,.slice e d f,.int .i64 0]))) (fun c=>.popS c fun e d f c=>.popS c fun j l k c=>.pi c fun x c=>.unNil c (.rt (.tuple #[.slice e d f,.slice j l k,.slice none 0 0,b0]))) fun t0 u0=>.fail)))):=fk [5,14] [⟨2,[(18,.slice),(48,.int .i64)],[5,14],[],[],[]⟩,⟨0,[(10,.slice),(11,.slice),(43,.int .i64)],[5,14],[],[],[]⟩] [] Tryz.f38
end Go.Y
end
section
namespace Go.TM.Rv
attribute [local irreducible] T.wp CV FWK
/-! ### Halves -/
def diff(h h':Cells):Cells:=fun r=>match h r with
 | some _=>none
 | none=>h' r
theorem diff_disj(h h':Cells):Disj h (diff h h'):=fun r=>by
 unfold diff;cases h r with
 | none=>exact .inl rfl
 | some x=>exact .inr rfl
theorem diff_get{h h':Cells}(a:h.le h'):h.add (diff h h')=h':=by
 funext r;unfold Cells.add diff;cases e:h r with
 | none=>rfl
 | some x=>exact(a r x e).symm
theorem diff_add{h h':LH}(b:h.le h'):h.add (diff h.get h'.get)=h':=by
 obtain⟨h1,h2,h3,a⟩:=b;show ({ h with get:=h.get.add (diff h.get h'.get) }:LH)=h';rw[diff_get h1];cases h;cases h';simp only at h2 h3 a;subst h2;subst h3;subst a;rfl
section
variable {P:Program} {X:XP} {Q:Leaf->LH->Prop}
end
end Go.TM.Rv
end
section
namespace Go.TM
def PairE(h:Cells)(a:Addr)(x:Int×Int):Prop:=h.cell? (a.add 0)=some (.int .i64 x.1)/\h.cell? (a.add 1)=some (.int .i64 x.2)
theorem PairE.grow:Grow PairE:=fun _ _ _ _ a h=>⟨a _ _ h.1,a _ _ h.2⟩
def PairEnc(x:Int×Int)(ws:List Value):Prop:=ws=[.int .i64 x.1,.int .i64 x.2]
theorem PairEnc.len:∀ x ws,PairEnc x ws->ws.length=2:=by rintro x _ rfl;rfl
theorem PairEnc.e{h':Cells}:∀ a x ws,PairEnc x ws->(∀ (j:Nat) w,ws[j]?=some w->h'.cell? (a.add j)=some w)->PairE h' a x:=by
 rintro a x _ rfl hw;exact⟨hw 0 _ rfl,hw 1 _ rfl⟩
theorem PairE.told{h:Cells}:ToldE PairE PairEnc 2 h:=by
 rintro a x ⟨h1,h2⟩;refine⟨_,rfl,rfl,fun j w b=>?_,fun w hw=>?_⟩
 ·match j,b with
  | 0,b=>cases b;exact h1
  | 1,b=>cases b;exact h2
 ·simp at hw;rcases hw with rfl|rfl<;>rfl
def kinIs(e one two:Int)(k:GKn):Bool:=k.ed==e&&(k.one==(if two<one then two else one)&&k.two==(if two>one then two else one))
def levelF(t:GTab)(e one two:Int):Int:=if one=two then 5 else match t.kins.find? (kinIs e one two) with
 | none=>0
 | some k=>k.lev
def pairOk(t:GTab)(e lev:Int)(x y:List Int)(one two:Int):Bool:=!(x.contains one||(y.contains two||decide (levelF t e one two<lev)))
def Wl(t:GTab)(e lev:Int)(x y b:List Int)(one:Int):List (Int×Int):=(b.filter (pairOk t e lev x y one)).map fun two=>(one,two)
def pairsF(t:GTab)(e lev:Int)(a b x y:List Int):List (Int×Int):=a.flatMap (Wl t e lev x y b)
def pairV(p:Int×Int):List Value:=[.agg #[.int .i64 p.1,.int .i64 p.2]]
theorem Ka{t:GTab}{e lev:Int}{a b x y:List Int}{p:Int×Int}:p∈pairsF t e lev a b x y↔p.1∈a/\p.2∈b/\pairOk t e lev x y p.1 p.2=true:=by
 unfold pairsF Wl;rw[List.mem_flatMap];constructor
 ·rintro⟨one,h1,h2⟩;obtain⟨two,h3,rfl⟩:=List.mem_map.1 h2;obtain⟨c,h5⟩:=List.mem_filter.1 h3;exact⟨h1,c,h5⟩
 ·rintro⟨h1,h2,h3⟩;exact⟨p.1,h1,List.mem_map.2 ⟨p.2,List.mem_filter.2 ⟨h2,h3⟩,rfl⟩⟩
end Go.TM
namespace Go.Y
attribute [local irreducible] T.wp CV FWK
variable {h h₀:LH}{z0 z1 z2:Addr}{p q px py:Option Addr}{n c m d nx cx ny cy:Nat}{f:TabC}{t:GTab}{lev:Int}{a b x y:List Int}{L:List (Int×Int)}{v:Value}
theorem c3232{e one two:Int}(h0:h.get.cell? z0=some (.int .i64 e))(h1:h.get.cell? z1=some (.int .i64 one))(h2:h.get.cell? z2=some (.int .i64 two))(k:GKn) :
  Pu Tryz.prog 165 #[.agg #[.int .i64 k.ed,.int .i64 k.one,.int .i64 k.two,.int .i64 k.lev],.pointer (some z0),.pointer (some z1),.pointer (some z2)] h (.bool (kinIs e one two k)):=by
 refine w3232 Qn ?_;unfold kinIs;refine yI (fun b1=>?_) (fun b1=>?_)
 ·refine yI (fun a=>?_) (fun a=>?_)
  ·refine gZ ?_;rw[b1,a];exact Qe ⟨rfl,rfl⟩
  ·rw[b1,a];exact Qe ⟨rfl,rfl⟩
 ·rw[b1];exact Qe ⟨rfl,rfl⟩
theorem c3231{l:List GKn}{fv:Value}{g:GKn->Bool}(d:Sl KnE 4 h.get p n l)(o:∀ k,CV X0 Tryz.prog fv #[.agg #[.int .i64 k.ed,.int .i64 k.one,.int .i64 k.two,.int .i64 k.lev]] h fun r h'=>r=.bool (g k)/\h'=h) :
  FW X0 Tryz.prog 164 #[.slice p n c,fv] h fun r h'=>h=h'/\((r=.int .i64 (-1)/\l.find? g=none)\/∃ (i:Nat) (x:GKn),i<n/\r=.int .i64 i/\l[i]?=some x/\l.find? g=some x):=by
 refine w3231 Qn ?_;have z:=d.1;have hb:=d.2.1;refine Qq (fun f vs h'=>h'=h/\∃ i:Nat,vs=[.int .i64 0,.int .i64 i]/\i<=n/\f=n-i/\l.find? g=(l.drop i).find? g) ⟨rfl,0,rfl,Nat.zero_le _,rfl,rfl⟩ ?_;rintro Y f vs _ m ⟨rfl,i,rfl,y,rfl,b⟩;refine yJ (fun j=>?_) (fun j=>?_)
 ·obtain⟨x,a,e,w,s,t,u,v⟩:=d.at (i:=i) (by omega);have q:0<=(i:Int)/\(i:Int)<(n:Int):=by omega
  rw[Jd e,List.find?_cons]at b;refine gZ ?_;refine J2 (o x) ?_;rintro _ _ ⟨rfl,rfl⟩;refine yI (fun b1=>?_) (fun b1=>?_)
  ·refine gI ?_;rw[b1]at b;refine gZ ?_;exact Qe ⟨rfl,.inr ⟨i,x,by omega,rfl,e,b⟩⟩
  ·rw[b1]at b;refine Qa (m (n-(i+1)) _ _ (by omega) ⟨rfl,i+1,?_,by omega,rfl,b⟩);rw[Qj (by omega) (by omega)];rfl
 ·refine gZ ?_;rw[List.drop_eq_nil_of_le (by omega)]at b;exact Qe ⟨rfl,.inl ⟨rfl,b⟩⟩
theorem c3201(hr:TabR h.get f t)(e one two:Int):Gr Tryz.prog 119 #[tabV f,.int .i64 e,one,two] h fun r _=>r=.int .i64 (levelF t e one two):=by
 refine w3201 Qn ?_;refine J1 fun r0 o=>?_;refine J1 fun m p=>?_;refine J1 fun n q=>?_;have s:=Qp (x:=(true,.cells #[.int .i64 e] 3 (0,0))) o;have u:=Qp (x:=(true,.cells #[.int .i64 one] 3 (0,0))) p;have l:=Qp (x:=(true,.cells #[.int .i64 two] 3 (0,0))) q;have d:=LH.le_trans u l;have b:=LH.le_trans s d;have z:Cells.cell? (Cells.upd (Cells.upd (Cells.upd h.get r0 (true,.cells #[.int .i64 e] 3 (0,0))) m (true,.cells #[.int .i64 one] 3 (0,0))) n (true,.cells #[.int .i64 two] 3 (0,0))) ⟨r0,0,none⟩=some (.int .i64 e):=Qc d.1 (Qs rfl);have k1:Cells.cell? (Cells.upd (Cells.upd (Cells.upd h.get r0 (true,.cells #[.int .i64 e] 3 (0,0))) m (true,.cells #[.int .i64 one] 3 (0,0))) n (true,.cells #[.int .i64 two] 3 (0,0))) ⟨m,0,none⟩=some (.int .i64 one):=Qc l.1 (Qs rfl);have v:Cells.cell? (Cells.upd (Cells.upd (Cells.upd h.get r0 (true,.cells #[.int .i64 e] 3 (0,0))) m (true,.cells #[.int .i64 one] 3 (0,0))) n (true,.cells #[.int .i64 two] 3 (0,0))) ⟨n,0,none⟩=some (.int .i64 two):=Qs rfl;have c:=hr.le b.1;refine gL0 k1 ?_;refine gL0 v ?_;unfold levelF;refine Qt (fun b1=>?_) (fun b1=>?_)
 ·rw[if_pos (by simpa using b1)];exact Qe ⟨b,rfl⟩
 ·rw[if_neg (by simpa using b1)];refine Qz (Ko (c3231 c.kins fun k=>Kq (first:=#[]) (args:=#[.agg #[.int .i64 k.ed,.int .i64 k.one,.int .i64 k.two,.int .i64 k.lev]]) (cap:=#[.pointer (some ⟨r0,0,none⟩),.pointer (some ⟨m,0,none⟩),.pointer (some ⟨n,0,none⟩)]) Qn rfl (c3232 z k1 v k))) ?_;have G:=c.kins.1;have hb:=c.kins.2.1;rintro _ _ ⟨rfl,⟨rfl,g⟩|⟨i,x,F,rfl,y,g⟩⟩
  ·refine yT ?_;rw[g];exact Qe ⟨b,rfl⟩
  ·refine gZ ?_;refine t_if (fun e=>absurd e (by omega)) (fun _=>?_);obtain⟨H,a,j,E,A,B,C,D⟩:=c.kins.at (i:=i) (by omega);rw[y]at j;cases j;have w:0<=(i:Int)/\(i:Int)<(f.n2:Int):=by omega
   refine gZ ?_;rw[g];exact Qe ⟨b,rfl⟩
structure TalkAt(h:Cells)(z:Addr)(f:TabC)(e lev:Int)(p:Option Addr)(n c:Nat)(q:Option Addr)(m d:Nat):Prop where
 t0:h.cell? (Addr.add (Addr.add z 0) 0)=some (.slice f.p0 f.n0 f.c0)
 t1:h.cell? (Addr.add (Addr.add z 0) 1)=some (.slice f.p1 f.n1 f.c1)
 t2:h.cell? (Addr.add (Addr.add z 0) 2)=some (.slice f.p2 f.n2 f.c2)
 t3:h.cell? (Addr.add z 3)=some (.int .i64 e)
 t4:h.cell? (Addr.add z 4)=some (.int .i64 lev)
 t5:h.cell? (Addr.add z 5)=some (.slice p n c)
 t6:h.cell? (Addr.add z 6)=some (.slice q m d)
theorem TalkAt.le{h h':Cells}{z:Addr}{f:TabC}{e lev:Int}{p q:Option Addr}{n c m d:Nat}(b:h.le h')(a:TalkAt h z f e lev p n c q m d):TalkAt h' z f e lev p n c q m d :=
 ⟨Qc b a.t0,Qc b a.t1,Qc b a.t2,Qc b a.t3,Qc b a.t4,Qc b a.t5,Qc b a.t6⟩
theorem hands3212{e:Int}(C:TalkAt h₀.get z0 f e lev p n c q m d)(j0:h₀.get.cell? z1=some (.slice px nx cx))(k0:h₀.get.cell? z2=some (.slice py ny cy))
 (hr:TabR h₀.get f t)(W:Sl IntE 1 h₀.get p n a)(hb:Sl IntE 1 h₀.get q m b)(hx:Sl IntE 1 h₀.get px nx x)(hy:Sl IntE 1 h₀.get py ny y) :
  Hands X0 Tryz.prog (.func (.func 124) #[] #[.pointer (some z0),.pointer (some z1),.pointer (some z2)]) h₀ ((pairsF t e lev a b x y).map pairV):=by
 intro yv J E U _ r h hle hJ;refine Kq Qn (by rfl) (?_:FW X0 Tryz.prog 124 #[yv,.pointer (some z0),.pointer (some z1),.pointer (some z2)] h _);refine w3212 Qn ?_;have y0:=W.1;have u0:=W.2.1;have a1:=hb.1;have w0:=hb.2.1;have y5:=(C.le hle.1).t5;generalize hL:(pairsF t e lev a b x y).map pairV=L at r ⊢;refine gZ ?_;refine Qq (fun N vs h'=>h₀.le h'/\∃ (i cnt:Nat),vs=[.int .i64 i]/\i<=n/\N=n-i/\J cnt h'/\cnt<=L.length/\L.drop cnt=(pairsF t e lev (a.drop i) b x y).map pairV) ⟨hle,0,0,rfl,Nat.zero_le _,rfl,hJ,Nat.zero_le _,hL.symm⟩ ?_;rintro Y N vs h₁ hY ⟨A,i,cnt,rfl,hi,rfl,D,o,g⟩;refine yJ (fun e1=>?_) (fun e1=>?_)
 ·obtain⟨one,ad,G,s0,e2⟩:=(W.le IntE.grow A.1).at (i:=i) (by omega);unfold IntE at e2;have x0:0<=(i:Int)/\(i:Int)<(n:Int):=by omega
  have y6:=(C.le A.1).t6;rw[Jd G,show pairsF t e lev (one::a.drop (i+1)) b x y=Wl t e lev x y b one++pairsF t e lev (a.drop (i+1)) b x y from List.flatMap_cons,List.map_append]at g;generalize hR:(pairsF t e lev (a.drop (i+1)) b x y).map pairV=R at g;refine gZ ?_;refine J7 (fun N vs h'=>h₀.le h'/\∃ (j cnt:Nat),vs=[.int .i64 j]/\j<=m/\N=m-j/\J cnt h'/\cnt<=L.length/\L.drop cnt=(Wl t e lev x y (b.drop j) one).map pairV++R)
   (fun vs h'=>h₀.le h'/\∃ (j cnt:Nat),vs=[.int .i64 j]/\J cnt h'/\cnt<=L.length/\L.drop cnt=R) ⟨A,0,cnt,rfl,Nat.zero_le _,rfl,D,o,g⟩ ?_ ?_
  ·rintro Y2 N vs v V ⟨k,j,cnt,rfl,hj,rfl,s,o,g⟩;refine yJ (fun e3=>?_) (fun e3=>?_)
   ·obtain⟨two,q0,H,l0,e4⟩:=(hb.le IntE.grow k.1).at (i:=j) (by omega);unfold IntE at e4;have m0:0<=(j:Int)/\(j:Int)<(m:Int):=by omega
    have w1:=Qc k.1 j0;rw[Jd H,show Wl t e lev x y (two::b.drop (j+1)) one=(if pairOk t e lev x y one two then [(one,two)] else [])++Wl t e lev x y (b.drop (j+1)) one by
     unfold Wl;rw[List.filter_cons];split<;>rfl]at g
    have next:∀ {h':LH},h₀.le h'->∀ l,J l h'->l<=L.length->L.drop l=(Wl t e lev x y (b.drop (j+1)) one).map pairV++R->Y2 [.int .i64 (wrap .i64 ((j:Int)+1))] h':=fun e0 l Q X a0=>by
     refine V (m-(j+1)) _ _ (by omega) ⟨e0,j+1,l,?_,by omega,rfl,Q,X,a0⟩;rw[Qj (by omega) (by omega)];rfl
    refine gZ ?_;refine t_pu (c100 (hx.le IntE.grow k.1) one) ?_;refine yI (fun b1=>?_) (fun b1=>?_)
    ·refine gZ ?_;have u:pairOk t e lev x y one two=false:=by unfold pairOk;rw[b1];rfl
     rw[u]at g;exact Qa (next k cnt s o (by simpa using g))
    have w2:=Qc k.1 k0;refine gZ ?_;refine t_pu (c100 (hy.le IntE.grow k.1) two) ?_;refine yI (fun O=>?_) (fun O=>?_)
    ·refine gZ ?_;have u:pairOk t e lev x y one two=false:=by unfold pairOk;rw[b1,O];rfl
     rw[u]at g;exact Qa (next k cnt s o (by simpa using g))
    have v0:=(C.le k.1).t0;have v1:=(C.le k.1).t1;have v2:=(C.le k.1).t2;have v3:=(C.le k.1).t3;have v4:=(C.le k.1).t4;refine gZ ?_;refine t_gr (c3201 (hr.le k.1) e one two) ?_;rintro _ w K rfl;have z:=LH.le_trans k K;have g1:=(C.le z.1).t4;refine gZ ?_;have F:J cnt w:=by
     have:=U cnt v _ s (Rv.diff_disj v.get w.get);rwa[Rv.diff_add K]at this
    refine t_if (fun P=>?_) (fun P=>?_)
    ·have u:pairOk t e lev x y one two=false:=by unfold pairOk;rw[b1,O,decide_eq_true P];rfl
     rw[u]at g;exact Qa (next z cnt F o (by simpa using g))
    ·have I:pairOk t e lev x y one two=true:=by unfold pairOk;rw[b1,O,decide_eq_false P];rfl
     rw[I]at g;have B:L[cnt]?=some (pairV (one,two)):=by
      have:(L.drop cnt)[0]?=some (pairV (one,two)):=by rw[g];rfl
      simpa using this
     have Z:=r cnt w _ z B F;refine J2 Z ?_;rintro bb o0 ⟨M,⟨rfl,S⟩|⟨rfl,hE⟩⟩
     ·refine yF ?_;refine Qa (next M (cnt+1) S (List.getElem?_eq_some_iff.1 B).1 ?_);rw[<- List.drop_drop,g];rfl
     ·refine yT ?_;refine gZ ?_;exact Qe ⟨M,.inr hE⟩
   ·refine gZ ?_;rw[List.drop_eq_nil_of_le (by omega:b.length<=j)]at g;exact⟨k,j,cnt,rfl,s,o,by simpa[Wl] using g⟩
  ·rintro vs v ⟨k,j,cnt,rfl,s,o,hd⟩;refine gZ ?_;refine Qa (hY (n-(i+1)) _ _ (by omega) ⟨k,i+1,cnt,?_,by omega,rfl,s,o,by rw[hd,hR]⟩);rw[Qj (by omega) (by omega)];rfl
 ·refine gZ ?_;rw[List.drop_eq_nil_of_le (by omega:a.length<=i)]at g;have h0:L.drop cnt=[]:=by simpa[pairsF] using g
  have hd:=congrArg List.length h0;rw[List.length_drop,List.length_nil]at hd;have:cnt=L.length:=by omega
  exact Qe ⟨A,.inl (this▸D)⟩
theorem c3190{e:Int}(hr:TabR h.get f t)(C:Sl IntE 1 h.get p n a)(hb:Sl IntE 1 h.get q m b)(E:Sl IntE 1 h.get px nx x)(F:Sl IntE 1 h.get py ny y) :
  Gr Tryz.prog 76 #[.agg #[.slice f.p0 f.n0 f.c0,.slice f.p1 f.n1 f.c1,.slice f.p2 f.n2 f.c2,e,lev,.slice p n c,.slice q m d],.slice px nx cx,.slice py ny cy] h fun r h'=>Hands X0 Tryz.prog r h' ((pairsF t e lev a b x y).map pairV):=by
 refine w3190 Qn ?_;refine J1 fun r0 o=>?_;refine J1 fun G s=>?_;refine J1 fun H u=>?_;have w:=Qp (x:=(true,.cells #[.slice f.p0 f.n0 f.c0,.slice f.p1 f.n1 f.c1,.slice f.p2 f.n2 f.c2,.int .i64 e,.int .i64 lev,.slice p n c,.slice q m d] 145 (0,0))) o;have z:=Qp (x:=(true,.cells #[.slice px nx cx] 30 (0,0))) s;have k:=Qp (x:=(true,.cells #[.slice py ny cy] 30 (0,0))) u;have i:=LH.le_trans z k;have g:=LH.le_trans w i;have hc:∀ (j:Nat) v,[Value.slice f.p0 f.n0 f.c0,.slice f.p1 f.n1 f.c1,.slice f.p2 f.n2 f.c2,.int .i64 e,.int .i64 lev,.slice p n c,.slice q m d][j]?=some v->Cells.cell? (Cells.upd (Cells.upd (Cells.upd h.get r0 (true,.cells #[.slice f.p0 f.n0 f.c0,.slice f.p1 f.n1 f.c1,.slice f.p2 f.n2 f.c2,.int .i64 e,.int .i64 lev,.slice p n c,.slice q m d] 145 (0,0))) G (true,.cells #[.slice px nx cx] 30 (0,0))) H (true,.cells #[.slice py ny cy] 30 (0,0))) (Addr.add ⟨r0,0,none⟩ j)=some v:=fun j v D=>by
  rw[Qh,Nat.zero_add];exact Qc i.1 (Qs (by simpa using D))
 have l:Addr.add ⟨r0,0,none⟩ 0=⟨r0,0,none⟩:=by rw[Qh]
 refine Qe ⟨g,hands3212 (p:=p) (n:=n) (c:=c) (q:=q) (m:=m) (d:=d) (px:=px) (nx:=nx) (cx:=cx) (py:=py) (ny:=ny) (cy:=cy) ⟨by rw[l];exact hc 0 _ rfl,by rw[l];exact hc 1 _ rfl,by rw[l];exact hc 2 _ rfl,hc 3 _ rfl,hc 4 _ rfl,hc 5 _ rfl,hc 6 _ rfl⟩ ?_ (Qs rfl) (hr.le g.1) (C.le IntE.grow g.1) (hb.le IntE.grow g.1) (E.le IntE.grow g.1) (F.le IntE.grow g.1)⟩;exact Qc k.1 (Qs rfl)
/-! ### B of A -/
theorem K5:Tryz.prog.underlying 98=some (.slice 150):=by kernel_rfl
theorem Gq:(Tryz.prog.info? 150).map (fun i=>(i.size,i.bytes,i.zero))=some (2,16,some (.agg #[.int .i64 0,.int .i64 0])):=by kernel_rfl
theorem t_pushP{X:XP}{Q:Leaf->LH->Prop}{k:Value->T}{l:List (Int×Int)}{x y:Int}(g:Growing PairEnc 150 2 h₀.get h.get p n c l)(hle:h₀.le h)(i:n+1<=2^30)
 (f:∀ d b h',h₀.le h'->Growing PairEnc 150 2 h₀.get h'.get d (n+1) b (l++[(x,y)])->(k (.slice d (n+1) b)).wp X Tryz.prog Q h') :
  (T.sem false (Instr.buildSlice 98 1 #[(0,.agg #[x,y])]) fun v=>T.unS v fun a m c2=>T.sem false (Builtin.append_ #[98,98] 98 #[.slice p n c,.slice a m c2]) k).wp X Tryz.prog Q h :=
 Gd (x,y) [.int .i64 x,.int .i64 y] rfl rfl K5 Gq rfl (by decide) (by decide) (by kernel_rfl) rfl (by intro v hv;simp at hv;rcases hv with rfl|rfl<;>rfl) i g hle rfl fun d b h' e _ g'=>f d b h' e g'
theorem c3211(l:Hands X0 Tryz.prog v h (L.map pairV))(u:L.length<=2^20) :
  Gr Tryz.prog 123 #[.slice none 0 0,v] h fun r h'=>∃ p c,r=.slice p L.length c/\L.length<=c/\Sl PairE 2 h'.get p L.length L:=by
 refine w3211 Qn ?_;refine Gs (LH.le_refl h) l (fun j vs h'=>∃ (p:Option Addr) (n c:Nat),vs=[.slice p n c]/\Growing PairEnc 150 2 h.get h'.get p n c (L.take j)) ⟨none,0,0,rfl,Growing.nil⟩ ?_ ?_
 ·rintro vs h' hle ⟨p,n,c,rfl,g⟩;rw[List.take_of_length_le (by rw[List.length_map];omega)]at g;have a:=g.count PairEnc.len (by omega);have q:=g.sl PairEnc.len (by omega) PairEnc.e (by omega);have b:n<=c:=by obtain⟨_,o,_⟩:=g.row;exact o.le_cap
  subst a;refine gZ ?_;exact Qe ⟨hle,p,c,rfl,b,q⟩
 ·rintro j xs vs h' f hle ⟨p,n,c,rfl,g⟩ Y m;rw[List.getElem?_map]at f;obtain⟨x,s,rfl⟩:=Option.map_eq_some_iff.1 f;have a:=g.count PairEnc.len (by omega);rw[List.length_take]at a;unfold pairV;refine gZ ?_;refine t_pushP g hle (by omega) fun t i h2 d k=>?_;refine gZ ?_;refine Jk d (m _ _ d ⟨t,n+1,i,rfl,?_⟩);rw[List.take_add_one,s];exact k
theorem c3189(b:Hands X0 Tryz.prog v h (L.map pairV))(d:L.length<=2^20) :
  Gr Tryz.prog 75 #[v] h fun r h'=>∃ p c,r=.slice p L.length c/\L.length<=c/\Sl PairE 2 h'.get p L.length L:=by
 refine w3189 Qn ?_;refine t_gr (c3211 b d) ?_;rintro _ h1 a ⟨p,c,rfl,hc,e⟩;refine gZ ?_;exact Qe ⟨a,p,c,rfl,hc,e⟩
theorem c3188(hr:TabR h.get f t)(ok:TabOk t){e:Int}(he:0<=e/\e<(t.eds.length:Int))(i:1<=lev/\lev<=5)(s:Sl IntE 1 h.get p n a)(u:ListOk t e a)(hb:Sl IntE 1 h.get q m b)(v:ListOk t e b) :
  Gr Tryz.prog 74 #[tabV f,.int .i64 e,.slice p n c,.slice q m d,lev] h fun r _=>r=.tuple #[.agg #[.slice f.p0 f.n0 f.c0,.slice f.p1 f.n1 f.c1,.slice f.p2 f.n2 f.c2,.int .i64 e,lev,.slice p n c,.slice q m d],.int .i64 0]:=by
 refine w3188 Qn ?_;refine Yi und106 infL (by decide) (by decide) (cells:=#[.slice p n c,.slice q m d]) (by kernel_rfl) fun r h1 g _ o=>?_;refine gZ ?_;refine t_gr (c3133 (hr.le g.1) ok he (sl_two o (s.le IntE.grow g.1) (hb.le IntE.grow g.1)) fun l k=>?_) ?_
 ·simp at k;rcases k with rfl|rfl
  ·exact u
  ·exact v
 rintro _ h2 j rfl;unfold tabV;refine yT ?_;refine t_pu (c3183 _ _ _) ?_;rw[show isIn lev 1 5=true by unfold isIn;rw[decide_eq_true i.1,decide_eq_true i.2];rfl];refine yF ?_;exact Qe ⟨LH.le_trans g j,rfl⟩
end Go.Y
end
section
namespace Go.TM
theorem Uc{P:Program}{X:XP}{Q:Leaf->LH->Prop}{h:LH}{el:TypeId}{z:Value}{v:Nat->Value}{k:Nat->T}(one:∀ r,isOne (v r)=true)(i:∀ r,h.get r=none->(k r).wp X P Q { h with get:=h.get.upd r (true,.cells #[v r] el (0,0)) }) :
  (T.new el #[z] fun r=>T.store (Addr.add ⟨r,0,none⟩ 0) (v r) (k r)).wp X P Q h:=by
 refine J1 fun r hr=>?_;refine Zo (r:=r) (j:=0) (by rw[Qh]) (Qd _ _ _) (by simp) (one r) fun h' o a=>?_;have:h'={ h with get:=h.get.upd r (true,.cells #[v r] el (0,0)) }:=by
  obtain⟨g,c,p,d⟩:=h';obtain⟨k1,l,m,n⟩:=o;have f:g=h.get.upd r (true,.cells #[v r] el (0,0)):=by
   funext b;by_cases e:b=r
   ·subst e;rw[Qd];exact a
   ·rw[Qk _ _ e];have:=k1 b e;rw[show ({ get:=g,chans:=c,pend:=p,todo:=d }:LH).get b=g b from rfl]at this;rw[this];exact Qk _ _ e
  subst f;cases l;cases m;cases n;rfl
 rw[this];exact i r hr
end Go.TM
end
section
namespace Go.Y
set_option linter.unusedVariables false
variable {X:XP} {h:LH} {A:Value->LH->Prop}
def n2092(f:Option Addr)(a e:Nat):T:=.cI 173 #[.int .u64 (IntKind.wrap .u64 (↑a:Int))] fun c=>.cl 172 #[.slice f a e,.int .i64 0,.int .i64 (↑a:Int),c] fun d=>.unTup d fun b=>.unNil b (.rt (.tuple #[]))
theorem w2092(xp:Option Addr)(xn xc:Nat):FX X 127 #[.slice xp xn xc] h A (n2092 xp xn xc):=fk [] [] [] Tryz.f127
def n2101(g:Option Addr)(f i:Nat)(s d z:Int):T:=.loop [s,d,z,true,true] (fun a=>.pi a fun b a=>.pi a fun c a=>.pi a fun p a=>.popB a fun d a=>.popB a fun n a=>.unNil a (bif decide (wrap .i64 (c-b)<=12) then .cl 193 #[.slice g f i,b,c] fun e=>.unTup e fun j=>.unNil j (.rn [b,c,p,d,n]) else bif p==0 then .cl 194 #[.slice g f i,b,c] fun e=>.unTup e fun j=>.unNil j (.rn [b,c,p,d,n]) else .blk (bif !d then .cl 195 #[.slice g f i,b,c] fun e=>.unTup e fun j=>.unNil j (.ag [.int .i64 (wrap .i64 (p-1))]) else .ag [p]) (fun a=>.pi a fun l a=>.unNil a (.cT 196 #[.slice g f i,b,c] fun e a=>.ui e fun u=>.unCons a fun e a=>.ui e fun v=>.unNil a (.blk (bif v==2 then .cl 197 #[.slice g f i,b,c] fun e=>.unTup e fun j=>.unNil j (.ag [.int .i64 (wrap .i64 (wrap .i64 (c-1)-wrap .i64 (u-b))),.int .i64 1]) else .ag [u,v]) (fun a=>.pi a fun k a=>.pi a fun w a=>.unNil a (.blk (bif d then bif n then bif w==1 then .cB 198 #[.slice g f i,b,c] fun d=>bif d then .rn [] else .ag [] else .ag [] else .ag [] else .ag []) (fun a=>.unNil a (.blk (bif decide (b>0) then .need (0<=wrap .i64 (b-1)/\wrap .i64 (b-1)<(↑f:Int)) (.someA g fun s=>.li (s.add ((wrap .i64 (b-1)).toNat*1)) fun o=>.need (0<=k/\k<(↑f:Int)) (.someA g fun t=>.li (t.add (k.toNat*1)) fun m=>.cB 199 #[o,m] fun d=>.need (0<=k/\k<(↑f:Int)) (.someA g fun x=>.ne (.pointer (some (x.add (k.toNat*1)))) (.pointer (some (t.add (k.toNat*1)))) (.nds [k,.S g f i] (.need (0<=wrap .i64 (b-1)/\wrap .i64 (b-1)<(↑f:Int)) (.someA g fun y=>.ne (.pointer (some (y.add ((wrap .i64 (b-1)).toNat*1)))) (.pointer (some (s.add ((wrap .i64 (b-1)).toNat*1)))) (.nds [.val (.int .i64 (wrap .i64 (b-1))),b,.S g f i,.B (decide (b>0)),b] (bif !d then .cI 200 #[.slice g f i,b,c,k] fun b=>.leaf (.out 1 [b]) else .ag [b])))))))) else .nds [.U,.U,.U,.U,.U,.B (decide (b>0)),b,.U,.U,.U,.U,.U,.B (decide (b>0)),b,.U,.U,.U,.U,.U,.B (decide (b>0)),b] (.ag [b])) (fun a=>.pi a fun o a=>.unNil a (.cT 201 #[.slice g f i,o,c,k] fun e a=>.ui e fun m=>.unCons a fun e a=>.unB e fun d=>.unNil a (.need ((8:Int)≠0) (bif decide (wrap .i64 (m-o)<wrap .i64 (c-m)) then .cl 172 #[.slice g f i,o,m,l] fun e=>.unTup e fun j=>.unNil j (.ag [.int .i64 (wrap .i64 (m+1)),c,l,.bool (decide (wrap .i64 (m-o)>=wrap .i64 (Int.tdiv (wrap .i64 (c-b)) 8))),d]) else .cl 172 #[.slice g f i,.int .i64 (wrap .i64 (m+1)),c,l] fun e=>.unTup e fun j=>.unNil j (.ag [o,m,l,.bool (decide (wrap .i64 (c-m)>=wrap .i64 (Int.tdiv (wrap .i64 (c-b)) 8))),d]))))) (fun a=>.pi a fun b a=>.unNil a (.rn [b,c,l,d,n])) fun q r=>bif Nat.beq q 1 then .pi r fun b a=>.unNil a (.ag [b,c,l,d,n]) else .fail)) (fun a=>.unNil a (.rn [b,c,l,d,n])) fun q r=>.fail)) (fun a=>.pi a fun k a=>.pi a fun w a=>.unNil a (.rn [b,c,l,d,n])) fun q r=>.fail))) (fun a=>.pi a fun l a=>.unNil a (.rn [b,c,l,d,n])) fun q r=>.fail)) (fun a=>.pi a fun b a=>.pi a fun b a=>.pi a fun b a=>.popB a fun d a=>.popB a fun d a=>.unNil a (.rt (.tuple #[]))) (fun a=>.pi a fun b a=>.pi a fun b a=>.pi a fun b a=>.popB a fun d a=>.popB a fun d a=>.unNil a (.rt (.tuple #[]))) fun q r=>.fail
theorem w2101(datap:Option Addr)(datan datac:Nat)(a b limit:Int):FX X 172 #[.slice datap datan datac,a,b,limit] h A (n2101 datap datan datac a b limit):=fk [] [⟨0,[(1,.int .i64),(2,.int .i64),(3,.int .i64),(8,.bool),(9,.bool)],[],[],[],[]⟩] [⟨20,[(1,.int .i64)],[],[1],[],[]⟩,⟨17,[],[],[],[],[]⟩,⟨15,[(11,.int .i64),(12,.int .i64)],[],[],[],[]⟩,⟨10,[(3,.int .i64)],[],[],[],[]⟩] Tryz.f172
variable {a b c d e f g i j k l m:Int}{n o p q r s t u v w x y z:Nat}{B C D E F G H I J K L M:Option Addr}
theorem w2102:FX X 173 #[.int .u64 a] h A (.cI 203 #[.int .u64 a] fun b=>.rt (.int .i64 b)):=fk [] [] [] Tryz.f173
def n2105(e:Option Addr)(d j:Nat)(c k:Int):T:=.loop [.int .i64 (wrap .i64 (c+1))] (fun b=>.pi b fun a b=>.unNil b (bif decide (a<k) then .loop [a] (fun b=>.pi b fun a b=>.unNil b (.blk (bif decide (a>c) then .need (0<=a/\a<(↑d:Int)) (.someA e fun g=>.li (g.add (a.toNat*1)) fun f=>.need (0<=wrap .i64 (a-1)/\wrap .i64 (a-1)<(↑d:Int)) (.someA e fun i=>.li (i.add ((wrap .i64 (a-1)).toNat*1)) fun l=>.cB 199 #[f,l] fun k=>.need (0<=wrap .i64 (a-1)/\wrap .i64 (a-1)<(↑d:Int)) (.someA e fun o=>.ne (.pointer (some (o.add ((wrap .i64 (a-1)).toNat*1)))) (.pointer (some (i.add ((wrap .i64 (a-1)).toNat*1)))) (.nds [.val (.int .i64 (wrap .i64 (a-1))),a,.S e d j] (.need (0<=a/\a<(↑d:Int)) (.someA e fun p=>.ne (.pointer (some (p.add (a.toNat*1)))) (.pointer (some (g.add (a.toNat*1)))) (.nds [a,.S e d j,.B (decide (a>c)),c,a] (bif k then .ag [] else .leaf (.out 2 []))))))))) else .nds [.U,.U,.U,.U,.U,.B (decide (a>c)),c,a,.U,.U,.U,.U,.U,.B (decide (a>c)),c,a] (.leaf (.out 2 []))) (fun b=>.unNil b (.need (0<=wrap .i64 (a-1)/\wrap .i64 (a-1)<(↑d:Int)) (.someA e fun c=>.li (c.add ((wrap .i64 (a-1)).toNat*1)) fun f=>.need (0<=a/\a<(↑d:Int)) (.someA e fun c=>.li (c.add (a.toNat*1)) fun l=>.need (0<=a/\a<(↑d:Int)) (.someA e fun g=>.store ((g.add (a.toNat*1)).add 0) (.int .i64 f) (.need (0<=a/\a<(↑d:Int)) (.someA e fun i=>.ne (.pointer (some (i.add (a.toNat*1)))) (.pointer (some (c.add (a.toNat*1)))) (.nds [a,.S e d j,.val (.int .i64 (wrap .i64 (a-1))),a,.S e d j] (.need (0<=wrap .i64 (a-1)/\wrap .i64 (a-1)<(↑d:Int)) (.someA e fun c=>.store ((c.add ((wrap .i64 (a-1)).toNat*1)).add 0) (.int .i64 l) (.ag [.int .i64 (wrap .i64 (a-1))]))))))))))) (fun b=>.unNil b (.rn [a])) fun m n=>bif Nat.beq m 2 then .unNil n (.bk [a]) else .fail)) (fun b=>.pi b fun f b=>.unNil b (.ag [.int .i64 (wrap .i64 (a+1))])) (fun b=>.pi b fun f b=>.unNil b (.rn [a])) fun m n=>.fail else .bk [a])) (fun b=>.pi b fun a b=>.unNil b (.rt (.tuple #[]))) (fun b=>.pi b fun a b=>.unNil b (.rt (.tuple #[]))) fun m n=>.fail
theorem w2105(datap:Option Addr)(datan datac:Nat)(a b:Int):FX X 193 #[.slice datap datan datac,a,b] h A (n2105 datap datan datac a b):=fk [] [⟨2,[(7,.int .i64)],[],[],[],[]⟩,⟨0,[(6,.int .i64)],[],[],[],[]⟩] [⟨6,[],[],[2],[],[]⟩] Tryz.f193
theorem w2111:FX X 199 #[a,b] h A (.cB 174 #[a] fun c=>bif c then .cB 174 #[b] fun c=>bif !c then .rt (.bool true) else .rt (.bool (decide (a<b))) else .rt (.bool (decide (a<b)))):=fk [] [] [] Tryz.f199
theorem w2115:FX X 203 #[.int .u64 a] h A (.blk (bif decide (a>=4294967296) then .need ((0:Int)<=32) (.ag [.int .u64 (Int.fdiv a (2^32)),.int .i64 32]) else .ag [.int .u64 a,.int .i64 0]) (fun b=>.popI .u64 b fun c b=>.pi b fun e b=>.unNil b (.blk (bif decide (c>=65536) then .need ((0:Int)<=16) (.ag [.int .u64 (Int.fdiv c (2^16)),.int .i64 (wrap .i64 (e+16))]) else .ag [.int .u64 c,e]) (fun b=>.popI .u64 b fun c b=>.pi b fun f b=>.unNil b (bif decide (c>=256) then .need ((0:Int)<=8) (.sem false (Instr.index 9 (.string { data:=List.toArray (List.append (List.append [0,1,2,2,3,3,3,3,4,4,4,4,4,4,4,4,5,5,5,5,5,5,5,5,5,5,5,5,5,5,5,5,6,6,6,6,6,6,6,6,6,6,6,6,6,6,6,6,6,6,6,6,6,6,6,6,6,6,6,6,6,6,6,6] [7,7,7,7,7,7,7,7,7,7,7,7,7,7,7,7,7,7,7,7,7,7,7,7,7,7,7,7,7,7,7,7,7,7,7,7,7,7,7,7,7,7,7,7,7,7,7,7,7,7,7,7,7,7,7,7,7,7,7,7,7,7,7,7]) (List.append [8,8,8,8,8,8,8,8,8,8,8,8,8,8,8,8,8,8,8,8,8,8,8,8,8,8,8,8,8,8,8,8,8,8,8,8,8,8,8,8,8,8,8,8,8,8,8,8,8,8,8,8,8,8,8,8,8,8,8,8,8,8,8,8] [8,8,8,8,8,8,8,8,8,8,8,8,8,8,8,8,8,8,8,8,8,8,8,8,8,8,8,8,8,8,8,8,8,8,8,8,8,8,8,8,8,8,8,8,8,8,8,8,8,8,8,8,8,8,8,8,8,8,8,8,8,8,8,8])) }) (.int .u8 (IntKind.wrap .u8 (Int.fdiv c (2^8))))) fun d=>.unI .u8 d fun c=>.rt (.int .i64 (wrap .i64 (wrap .i64 (f+8)+wrap .i64 c)))) else .sem false (Instr.index 9 (.string { data:=List.toArray (List.append (List.append [0,1,2,2,3,3,3,3,4,4,4,4,4,4,4,4,5,5,5,5,5,5,5,5,5,5,5,5,5,5,5,5,6,6,6,6,6,6,6,6,6,6,6,6,6,6,6,6,6,6,6,6,6,6,6,6,6,6,6,6,6,6,6,6] [7,7,7,7,7,7,7,7,7,7,7,7,7,7,7,7,7,7,7,7,7,7,7,7,7,7,7,7,7,7,7,7,7,7,7,7,7,7,7,7,7,7,7,7,7,7,7,7,7,7,7,7,7,7,7,7,7,7,7,7,7,7,7,7]) (List.append [8,8,8,8,8,8,8,8,8,8,8,8,8,8,8,8,8,8,8,8,8,8,8,8,8,8,8,8,8,8,8,8,8,8,8,8,8,8,8,8,8,8,8,8,8,8,8,8,8,8,8,8,8,8,8,8,8,8,8,8,8,8,8,8] [8,8,8,8,8,8,8,8,8,8,8,8,8,8,8,8,8,8,8,8,8,8,8,8,8,8,8,8,8,8,8,8,8,8,8,8,8,8,8,8,8,8,8,8,8,8,8,8,8,8,8,8,8,8,8,8,8,8,8,8,8,8,8,8])) }) (.int .u8 (IntKind.wrap .u8 c))) fun d=>.unI .u8 d fun c=>.rt (.int .i64 (wrap .i64 (f+wrap .i64 c))))) (fun b=>.popI .u64 b fun c b=>.pi b fun c b=>.unNil b (.rt (.int .i64 c))) fun a g=>.fail)) (fun b=>.popI .u64 b fun c b=>.pi b fun c b=>.unNil b (.rt (.int .i64 c))) fun a g=>.fail):=fk [] [] [⟨7,[(0,.int .u64),(2,.int .i64)],[],[],[],[]⟩,⟨4,[(0,.int .u64),(2,.int .i64)],[],[],[],[]⟩] Tryz.f203
theorem w2106:FX X 194 #[.slice B n o,a,b] h A (.need ((2:Int)≠0) (.loop [.int .i64 (wrap .i64 (Int.tdiv (wrap .i64 (wrap .i64 (b-a)-1)) 2))] (fun c=>.pi c fun d c=>.unNil c (bif decide (d>=0) then .cl 208 #[.slice B n o,d,.int .i64 (wrap .i64 (b-a)),a] fun f=>.unTup f fun e=>.unNil e (.ag [.int .i64 (wrap .i64 (d-1))]) else .bk [d])) (fun c=>.pi c fun d c=>.unNil c (.loop [.int .i64 (wrap .i64 (wrap .i64 (b-a)-1))] (fun c=>.pi c fun d c=>.unNil c (bif decide (d>=0) then .need (0<=wrap .i64 (a+d)/\wrap .i64 (a+d)<(↑n:Int)) (.someA B fun i=>.li (i.add ((wrap .i64 (a+d)).toNat*1)) fun m=>.need (0<=a/\a<(↑n:Int)) (.someA B fun g=>.li (g.add (a.toNat*1)) fun p=>.need (0<=a/\a<(↑n:Int)) (.someA B fun j=>.store ((j.add (a.toNat*1)).add 0) (.int .i64 m) (.need (0<=a/\a<(↑n:Int)) (.someA B fun k=>.ne (.pointer (some (k.add (a.toNat*1)))) (.pointer (some (g.add (a.toNat*1)))) (.nds [a,.S B n o,.val (.int .i64 (wrap .i64 (a+d))),d,a,.S B n o] (.need (0<=wrap .i64 (a+d)/\wrap .i64 (a+d)<(↑n:Int)) (.someA B fun l=>.store ((l.add ((wrap .i64 (a+d)).toNat*1)).add 0) (.int .i64 p) (.cl 208 #[.slice B n o,.int .i64 0,d,a] fun f=>.unTup f fun e=>.unNil e (.ag [.int .i64 (wrap .i64 (d-1))])))))))))) else .bk [d])) (fun c=>.pi c fun d c=>.unNil c (.rt (.tuple #[]))) (fun c=>.pi c fun d c=>.unNil c (.rt (.tuple #[]))) fun q r=>.fail)) (fun c=>.pi c fun d c=>.unNil c (.rt (.tuple #[]))) fun q r=>.fail)):=fk [] [⟨0,[(9,.int .i64)],[],[],[],[]⟩,⟨2,[(10,.int .i64)],[],[],[],[]⟩] [] Tryz.f194
theorem w2107:FX X 195 #[.slice B n o,a,b] h A (bif decide (wrap .i64 (b-a)>=8) then .new 301 #[.int .u64 0] fun j=>.store (Addr.add ⟨j,0,none⟩ 0) (.int .u64 (IntKind.wrap .u64 (wrap .i64 (b-a)))) (.cl 209 #[.int .i64 (wrap .i64 (b-a))] fun g=>.unI .u64 g fun d=>.need ((4:Int)≠0) (.loop [.int .i64 (wrap .i64 (wrap .i64 (a+wrap .i64 (wrap .i64 (Int.tdiv (wrap .i64 (b-a)) 4)*2))-1))] (fun c=>.pi c fun e c=>.unNil c (.need ((4:Int)≠0) (bif decide (e<=wrap .i64 (wrap .i64 (a+wrap .i64 (wrap .i64 (Int.tdiv (wrap .i64 (b-a)) 4)*2))+1)) then .cl 210 #[.pointer (some ⟨j,0,none⟩)] fun g=>.unI .u64 g fun f=>.blk (bif decide (wrap .i64 (IntKind.wrap .u64 (↑(BitVec.toNat (BitVec.ofInt 64 f &&& BitVec.ofInt 64 (IntKind.wrap .u64 (d-1)))):Int))>=wrap .i64 (b-a)) then .ag [.int .i64 (wrap .i64 (wrap .i64 (IntKind.wrap .u64 (↑(BitVec.toNat (BitVec.ofInt 64 f &&& BitVec.ofInt 64 (IntKind.wrap .u64 (d-1)))):Int))-wrap .i64 (b-a)))] else .ag [.int .i64 (wrap .i64 (IntKind.wrap .u64 (↑(BitVec.toNat (BitVec.ofInt 64 f &&& BitVec.ofInt 64 (IntKind.wrap .u64 (d-1)))):Int)))]) (fun c=>.pi c fun d c=>.unNil c (.need (0<=wrap .i64 (a+d)/\wrap .i64 (a+d)<(↑n:Int)) (.someA B fun k=>.li (k.add ((wrap .i64 (a+d)).toNat*1)) fun q=>.need (0<=e/\e<(↑n:Int)) (.someA B fun i=>.li (i.add (e.toNat*1)) fun r=>.need (0<=e/\e<(↑n:Int)) (.someA B fun l=>.store ((l.add (e.toNat*1)).add 0) (.int .i64 q) (.need (0<=e/\e<(↑n:Int)) (.someA B fun m=>.ne (.pointer (some (m.add (e.toNat*1)))) (.pointer (some (i.add (e.toNat*1)))) (.nds [e,.S B n o,.val (.int .i64 (wrap .i64 (a+d))),d,a,.S B n o] (.need (0<=wrap .i64 (a+d)/\wrap .i64 (a+d)<(↑n:Int)) (.someA B fun p=>.store ((p.add ((wrap .i64 (a+d)).toNat*1)).add 0) (.int .i64 r) (.ag [.int .i64 (wrap .i64 (e+1))]))))))))))) (fun c=>.pi c fun d c=>.unNil c (.rn [e])) fun s t=>.fail else .bk [e]))) (fun c=>.pi c fun d c=>.unNil c (.rt (.tuple #[]))) (fun c=>.pi c fun d c=>.unNil c (.rt (.tuple #[]))) fun s t=>.fail)) else .rt (.tuple #[])):=fk [] [⟨0,[(9,.int .i64)],[],[],[],[]⟩] [⟨10,[(10,.int .i64)],[],[],[],[]⟩] Tryz.f195
theorem w2108:FX X 196 #[.slice B n o,a,b] h A (.new 3 #[.int .i64 0] fun e=>.need ((4:Int)≠0) (.need ((4:Int)≠0) (.need ((4:Int)≠0) (.blk (bif decide (wrap .i64 (b-a)>=8) then bif decide (wrap .i64 (b-a)>=50) then .cI 211 #[.slice B n o,.int .i64 (wrap .i64 (a+wrap .i64 (wrap .i64 (Int.tdiv (wrap .i64 (b-a)) 4)*1))),.pointer (some ⟨e,0,none⟩)] fun c=>.cI 211 #[.slice B n o,.int .i64 (wrap .i64 (a+wrap .i64 (wrap .i64 (Int.tdiv (wrap .i64 (b-a)) 4)*2))),.pointer (some ⟨e,0,none⟩)] fun f=>.cI 211 #[.slice B n o,.int .i64 (wrap .i64 (a+wrap .i64 (wrap .i64 (Int.tdiv (wrap .i64 (b-a)) 4)*3))),.pointer (some ⟨e,0,none⟩)] fun g=>.cI 212 #[.slice B n o,c,f,g,.pointer (some ⟨e,0,none⟩)] fun c=>.ag [c] else .cI 212 #[.slice B n o,.int .i64 (wrap .i64 (a+wrap .i64 (wrap .i64 (Int.tdiv (wrap .i64 (b-a)) 4)*1))),.int .i64 (wrap .i64 (a+wrap .i64 (wrap .i64 (Int.tdiv (wrap .i64 (b-a)) 4)*2))),.int .i64 (wrap .i64 (a+wrap .i64 (wrap .i64 (Int.tdiv (wrap .i64 (b-a)) 4)*3))),.pointer (some ⟨e,0,none⟩)] fun c=>.ag [c] else .ag [.int .i64 (wrap .i64 (a+wrap .i64 (wrap .i64 (Int.tdiv (wrap .i64 (b-a)) 4)*2)))]) (fun d=>.pi d fun c d=>.unNil d (.li ⟨e,0,none⟩ fun f=>bif f==0 then .rt (.tuple #[c,.int .i64 1]) else bif f==12 then .rt (.tuple #[c,.int .i64 2]) else .rt (.tuple #[c,.int .i64 0]))) (fun d=>.pi d fun c d=>.unNil d (.rt (.tuple #[.int .i64 0,.int .i64 0]))) fun i j=>.fail)))):=fk [] [] [⟨12,[(11,.int .i64)],[],[],[],[]⟩] Tryz.f196
theorem w2109:FX X 197 #[.slice B n o,a,b] h A (.loop [a,.int .i64 (wrap .i64 (b-1))] (fun d=>.pi d fun c d=>.pi d fun e d=>.unNil d (bif decide (c<e) then .need (0<=e/\e<(↑n:Int)) (.someA B fun a=>.li (a.add (e.toNat*1)) fun i=>.need (0<=c/\c<(↑n:Int)) (.someA B fun a=>.li (a.add (c.toNat*1)) fun j=>.need (0<=c/\c<(↑n:Int)) (.someA B fun f=>.store ((f.add (c.toNat*1)).add 0) (.int .i64 i) (.need (0<=c/\c<(↑n:Int)) (.someA B fun g=>.ne (.pointer (some (g.add (c.toNat*1)))) (.pointer (some (a.add (c.toNat*1)))) (.nds [c,.S B n o,e,.S B n o] (.need (0<=e/\e<(↑n:Int)) (.someA B fun a=>.store ((a.add (e.toNat*1)).add 0) (.int .i64 j) (.ag [.int .i64 (wrap .i64 (c+1)),.int .i64 (wrap .i64 (e-1))]))))))))) else .bk [c,e])) (fun d=>.pi d fun c d=>.pi d fun c d=>.unNil d (.rt (.tuple #[]))) (fun d=>.pi d fun c d=>.pi d fun c d=>.unNil d (.rt (.tuple #[]))) fun k l=>.fail):=fk [] [⟨0,[(6,.int .i64),(7,.int .i64)],[],[],[],[]⟩] [] Tryz.f197
theorem w2110:FX X 198 #[.slice B n o,a,b] h A (.loop [false,.int .i64 (wrap .i64 (a+1)),.int .i64 0] (fun d=>.popB d fun f d=>.pi d fun c d=>.pi d fun e d=>.unNil d (bif decide (e<5) then .loop [c] (fun d=>.pi d fun c d=>.unNil d (bif decide (c<b) then .need (0<=c/\c<(↑n:Int)) (.someA B fun a=>.li (a.add (c.toNat*1)) fun u=>.need (0<=wrap .i64 (c-1)/\wrap .i64 (c-1)<(↑n:Int)) (.someA B fun j=>.li (j.add ((wrap .i64 (c-1)).toNat*1)) fun v=>.cB 199 #[u,v] fun D=>.need (0<=wrap .i64 (c-1)/\wrap .i64 (c-1)<(↑n:Int)) (.someA B fun k=>.ne (.pointer (some (k.add ((wrap .i64 (c-1)).toNat*1)))) (.pointer (some (j.add ((wrap .i64 (c-1)).toNat*1)))) (.nds [.val (.int .i64 (wrap .i64 (c-1))),c,.S B n o] (.need (0<=c/\c<(↑n:Int)) (.someA B fun q=>.ne (.pointer (some (q.add (c.toNat*1)))) (.pointer (some (a.add (c.toNat*1)))) (.nds [c,.S B n o,.B (decide (c<b)),b,c] (bif !D then .ag [.int .i64 (wrap .i64 (c+1))] else .bk [c])))))))) else .nds [.U,.U,.U,.U,.U,.B (decide (c<b)),b,c,.U,.U,.U,.U,.U,.B (decide (c<b)),b,c,.U,.U,.U,.U,.U,.B (decide (c<b)),b,c] (.bk [c]))) (fun d=>.pi d fun c d=>.unNil d (bif c==b then .rn [true,c,e] else bif decide (wrap .i64 (b-a)<50) then .rn [false,c,e] else .need (0<=wrap .i64 (c-1)/\wrap .i64 (c-1)<(↑n:Int)) (.someA B fun j=>.li (j.add ((wrap .i64 (c-1)).toNat*1)) fun u=>.need (0<=c/\c<(↑n:Int)) (.someA B fun k=>.li (k.add (c.toNat*1)) fun v=>.need (0<=c/\c<(↑n:Int)) (.someA B fun q=>.store ((q.add (c.toNat*1)).add 0) (.int .i64 u) (.need (0<=c/\c<(↑n:Int)) (.someA B fun z=>.ne (.pointer (some (z.add (c.toNat*1)))) (.pointer (some (k.add (c.toNat*1)))) (.nds [c,.S B n o,.val (.int .i64 (wrap .i64 (c-1))),c,.S B n o] (.need (0<=wrap .i64 (c-1)/\wrap .i64 (c-1)<(↑n:Int)) (.someA B fun C=>.store ((C.add ((wrap .i64 (c-1)).toNat*1)).add 0) (.int .i64 v) (.blk (bif decide (wrap .i64 (c-a)>=2) then .loop [.int .i64 (wrap .i64 (c-1))] (fun d=>.pi d fun c d=>.unNil d (bif decide (c>=1) then .need (0<=c/\c<(↑n:Int)) (.someA B fun a=>.li (a.add (c.toNat*1)) fun i=>.need (0<=wrap .i64 (c-1)/\wrap .i64 (c-1)<(↑n:Int)) (.someA B fun g=>.li (g.add ((wrap .i64 (c-1)).toNat*1)) fun w=>.cB 199 #[i,w] fun b=>.need (0<=wrap .i64 (c-1)/\wrap .i64 (c-1)<(↑n:Int)) (.someA B fun r=>.ne (.pointer (some (r.add ((wrap .i64 (c-1)).toNat*1)))) (.pointer (some (g.add ((wrap .i64 (c-1)).toNat*1)))) (.nds [.val (.int .i64 (wrap .i64 (c-1))),c,.S B n o] (.need (0<=c/\c<(↑n:Int)) (.someA B fun s=>.ne (.pointer (some (s.add (c.toNat*1)))) (.pointer (some (a.add (c.toNat*1)))) (.nds [c,.S B n o] (bif !b then .bk [c] else .need (0<=wrap .i64 (c-1)/\wrap .i64 (c-1)<(↑n:Int)) (.someA B fun a=>.li (a.add ((wrap .i64 (c-1)).toNat*1)) fun x=>.need (0<=c/\c<(↑n:Int)) (.someA B fun a=>.li (a.add (c.toNat*1)) fun y=>.need (0<=c/\c<(↑n:Int)) (.someA B fun t=>.store ((t.add (c.toNat*1)).add 0) (.int .i64 x) (.need (0<=c/\c<(↑n:Int)) (.someA B fun p=>.ne (.pointer (some (p.add (c.toNat*1)))) (.pointer (some (a.add (c.toNat*1)))) (.nds [c,.S B n o,.val (.int .i64 (wrap .i64 (c-1))),c,.S B n o] (.need (0<=wrap .i64 (c-1)/\wrap .i64 (c-1)<(↑n:Int)) (.someA B fun a=>.store ((a.add ((wrap .i64 (c-1)).toNat*1)).add 0) (.int .i64 y) (.ag [.int .i64 (wrap .i64 (c-1))]))))))))))))))))) else .bk [c])) (fun d=>.pi d fun c d=>.unNil d (.ag [])) (fun d=>.pi d fun c d=>.unNil d (.rn [])) fun l m=>.fail else .ag []) (fun d=>.unNil d (bif decide (wrap .i64 (b-c)>=2) then .loop [.int .i64 (wrap .i64 (c+1))] (fun d=>.pi d fun c d=>.unNil d (bif decide (c<b) then .need (0<=c/\c<(↑n:Int)) (.someA B fun a=>.li (a.add (c.toNat*1)) fun i=>.need (0<=wrap .i64 (c-1)/\wrap .i64 (c-1)<(↑n:Int)) (.someA B fun g=>.li (g.add ((wrap .i64 (c-1)).toNat*1)) fun w=>.cB 199 #[i,w] fun b=>.need (0<=wrap .i64 (c-1)/\wrap .i64 (c-1)<(↑n:Int)) (.someA B fun r=>.ne (.pointer (some (r.add ((wrap .i64 (c-1)).toNat*1)))) (.pointer (some (g.add ((wrap .i64 (c-1)).toNat*1)))) (.nds [.val (.int .i64 (wrap .i64 (c-1))),c,.S B n o] (.need (0<=c/\c<(↑n:Int)) (.someA B fun s=>.ne (.pointer (some (s.add (c.toNat*1)))) (.pointer (some (a.add (c.toNat*1)))) (.nds [c,.S B n o] (bif !b then .bk [c] else .need (0<=wrap .i64 (c-1)/\wrap .i64 (c-1)<(↑n:Int)) (.someA B fun a=>.li (a.add ((wrap .i64 (c-1)).toNat*1)) fun x=>.need (0<=c/\c<(↑n:Int)) (.someA B fun a=>.li (a.add (c.toNat*1)) fun y=>.need (0<=c/\c<(↑n:Int)) (.someA B fun t=>.store ((t.add (c.toNat*1)).add 0) (.int .i64 x) (.need (0<=c/\c<(↑n:Int)) (.someA B fun p=>.ne (.pointer (some (p.add (c.toNat*1)))) (.pointer (some (a.add (c.toNat*1)))) (.nds [c,.S B n o,.val (.int .i64 (wrap .i64 (c-1))),c,.S B n o] (.need (0<=wrap .i64 (c-1)/\wrap .i64 (c-1)<(↑n:Int)) (.someA B fun a=>.store ((a.add ((wrap .i64 (c-1)).toNat*1)).add 0) (.int .i64 y) (.ag [.int .i64 (wrap .i64 (c+1))]))))))))))))))))) else .bk [c])) (fun d=>.pi d fun i d=>.unNil d (.ag [f,c,.int .i64 (wrap .i64 (e+1))])) (fun d=>.pi d fun i d=>.unNil d (.rn [f,c,e])) fun l m=>.fail else .ag [f,c,.int .i64 (wrap .i64 (e+1))])) (fun d=>.unNil d (.rn [f,c,e])) fun l m=>.fail))))))))))) (fun d=>.pi d fun c d=>.unNil d (.rn [f,c,e])) fun l m=>.fail else .bk [f,c,e])) (fun d=>.popB d fun b d=>.pi d fun c d=>.pi d fun c d=>.unNil d (.rt (.bool false))) (fun d=>.popB d fun b d=>.pi d fun c d=>.pi d fun c d=>.unNil d (.rt (.bool b))) fun l m=>.fail):=fk [] [⟨2,[(7,.int .i64)],[],[],[],[]⟩,⟨4,[(9,.int .i64)],[],[],[],[]⟩,⟨6,[(10,.int .i64)],[],[],[],[]⟩,⟨0,[(6,.bool),(7,.int .i64),(8,.int .i64)],[],[],[],[]⟩] [⟨18,[],[],[],[],[]⟩] Tryz.f198
theorem w2112:FX X 200 #[.slice B n o,a,b,c] h A (.need (0<=c/\c<(↑n:Int)) (.someA B fun t=>.li (t.add (c.toNat*1)) fun d=>.need (0<=a/\a<(↑n:Int)) (.someA B fun q=>.li (q.add (a.toNat*1)) fun x=>.need (0<=a/\a<(↑n:Int)) (.someA B fun u=>.store ((u.add (a.toNat*1)).add 0) (.int .i64 d) (.need (0<=a/\a<(↑n:Int)) (.someA B fun v=>.ne (.pointer (some (v.add (a.toNat*1)))) (.pointer (some (q.add (a.toNat*1)))) (.nds [a,.S B n o,c,.S B n o] (.need (0<=c/\c<(↑n:Int)) (.someA B fun w=>.store ((w.add (c.toNat*1)).add 0) (.int .i64 x) (.loop [.int .i64 (wrap .i64 (a+1)),.int .i64 (wrap .i64 (b-1))] (fun e=>.pi e fun d e=>.pi e fun g e=>.unNil e (.loop [d] (fun e=>.pi e fun d e=>.unNil e (bif decide (d<=g) then .need (0<=a/\a<(↑n:Int)) (.someA B fun i=>.li (i.add (a.toNat*1)) fun f=>.need (0<=d/\d<(↑n:Int)) (.someA B fun j=>.li (j.add (d.toNat*1)) fun k=>.cB 199 #[f,k] fun b=>.need (0<=d/\d<(↑n:Int)) (.someA B fun l=>.ne (.pointer (some (l.add (d.toNat*1)))) (.pointer (some (j.add (d.toNat*1)))) (.nds [d,.S B n o] (.need (0<=a/\a<(↑n:Int)) (.someA B fun m=>.ne (.pointer (some (m.add (a.toNat*1)))) (.pointer (some (i.add (a.toNat*1)))) (.nds [a,.S B n o,.B (decide (d<=g)),g,d] (bif !b then .ag [.int .i64 (wrap .i64 (d+1))] else .bk [d])))))))) else .nds [.U,.U,.U,.U,.U,.U,.B (decide (d<=g)),g,d,.U,.U,.U,.U,.U,.U,.B (decide (d<=g)),g,d] (.bk [d]))) (fun e=>.pi e fun d e=>.unNil e (.loop [g] (fun e=>.pi e fun f e=>.unNil e (bif decide (d<=f) then .need (0<=a/\a<(↑n:Int)) (.someA B fun i=>.li (i.add (a.toNat*1)) fun k=>.need (0<=f/\f<(↑n:Int)) (.someA B fun j=>.li (j.add (f.toNat*1)) fun p=>.cB 199 #[k,p] fun b=>.need (0<=f/\f<(↑n:Int)) (.someA B fun l=>.ne (.pointer (some (l.add (f.toNat*1)))) (.pointer (some (j.add (f.toNat*1)))) (.nds [f,.S B n o] (.need (0<=a/\a<(↑n:Int)) (.someA B fun m=>.ne (.pointer (some (m.add (a.toNat*1)))) (.pointer (some (i.add (a.toNat*1)))) (.nds [a,.S B n o,.B (decide (d<=f)),f,d] (bif b then .ag [.int .i64 (wrap .i64 (f-1))] else .bk [f])))))))) else .nds [.U,.U,.U,.U,.U,.U,.B (decide (d<=f)),f,d] (.bk [f]))) (fun e=>.pi e fun f e=>.unNil e (bif decide (d>f) then .bk [d,f] else .need (0<=f/\f<(↑n:Int)) (.someA B fun a=>.li (a.add (f.toNat*1)) fun k=>.need (0<=d/\d<(↑n:Int)) (.someA B fun a=>.li (a.add (d.toNat*1)) fun p=>.need (0<=d/\d<(↑n:Int)) (.someA B fun i=>.store ((i.add (d.toNat*1)).add 0) (.int .i64 k) (.need (0<=d/\d<(↑n:Int)) (.someA B fun j=>.ne (.pointer (some (j.add (d.toNat*1)))) (.pointer (some (a.add (d.toNat*1)))) (.nds [d,.S B n o,f,.S B n o] (.need (0<=f/\f<(↑n:Int)) (.someA B fun a=>.store ((a.add (f.toNat*1)).add 0) (.int .i64 p) (.ag [.int .i64 (wrap .i64 (d+1)),.int .i64 (wrap .i64 (f-1))]))))))))))) (fun e=>.pi e fun f e=>.unNil e (.rn [d,f])) fun r s=>.fail)) (fun e=>.pi e fun d e=>.unNil e (.rn [d,g])) fun r s=>.fail)) (fun e=>.pi e fun d e=>.pi e fun g e=>.unNil e (.rt (.int .i64 d))) (fun e=>.pi e fun d e=>.pi e fun d e=>.unNil e (.rt (.int .i64 0))) fun r s=>.fail)))))))))):=fk [] [⟨2,[(9,.int .i64)],[],[],[],[]⟩,⟨4,[(10,.int .i64)],[],[],[],[]⟩,⟨0,[(9,.int .i64),(10,.int .i64)],[],[],[],[]⟩] [] Tryz.f200
theorem w2113:FX X 201 #[.slice B n o,a,b,c] h A (.need (0<=c/\c<(↑n:Int)) (.someA B fun C=>.li (C.add (c.toNat*1)) fun d=>.need (0<=a/\a<(↑n:Int)) (.someA B fun z=>.li (z.add (a.toNat*1)) fun J=>.need (0<=a/\a<(↑n:Int)) (.someA B fun F=>.store ((F.add (a.toNat*1)).add 0) (.int .i64 d) (.need (0<=a/\a<(↑n:Int)) (.someA B fun G=>.ne (.pointer (some (G.add (a.toNat*1)))) (.pointer (some (z.add (a.toNat*1)))) (.nds [a,.S B n o,c,.S B n o] (.need (0<=c/\c<(↑n:Int)) (.someA B fun H=>.store ((H.add (c.toNat*1)).add 0) (.int .i64 J) (.loop [.int .i64 (wrap .i64 (a+1))] (fun e=>.pi e fun d e=>.unNil e (bif decide (d<=wrap .i64 (b-1)) then .need (0<=d/\d<(↑n:Int)) (.someA B fun l=>.li (l.add (d.toNat*1)) fun f=>.need (0<=a/\a<(↑n:Int)) (.someA B fun i=>.li (i.add (a.toNat*1)) fun q=>.cB 199 #[f,q] fun I=>.need (0<=a/\a<(↑n:Int)) (.someA B fun p=>.ne (.pointer (some (p.add (a.toNat*1)))) (.pointer (some (i.add (a.toNat*1)))) (.nds [a,.S B n o] (.need (0<=d/\d<(↑n:Int)) (.someA B fun a=>.ne (.pointer (some (a.add (d.toNat*1)))) (.pointer (some (l.add (d.toNat*1)))) (.nds [d,.S B n o,.B (decide (d<=wrap .i64 (b-1))),.val (.int .i64 (wrap .i64 (b-1))),d] (bif I then .ag [.int .i64 (wrap .i64 (d+1))] else .bk [d])))))))) else .nds [.U,.U,.U,.U,.U,.U,.B (decide (d<=wrap .i64 (b-1))),.val (.int .i64 (wrap .i64 (b-1))),d] (.bk [d]))) (fun e=>.pi e fun d e=>.unNil e (.loop [.int .i64 (wrap .i64 (b-1))] (fun e=>.pi e fun f e=>.unNil e (bif decide (d<=f) then .need (0<=f/\f<(↑n:Int)) (.someA B fun l=>.li (l.add (f.toNat*1)) fun q=>.need (0<=a/\a<(↑n:Int)) (.someA B fun i=>.li (i.add (a.toNat*1)) fun x=>.cB 199 #[q,x] fun b=>.need (0<=a/\a<(↑n:Int)) (.someA B fun p=>.ne (.pointer (some (p.add (a.toNat*1)))) (.pointer (some (i.add (a.toNat*1)))) (.nds [a,.S B n o] (.need (0<=f/\f<(↑n:Int)) (.someA B fun a=>.ne (.pointer (some (a.add (f.toNat*1)))) (.pointer (some (l.add (f.toNat*1)))) (.nds [f,.S B n o,.B (decide (d<=f)),f,d] (bif !b then .ag [.int .i64 (wrap .i64 (f-1))] else .bk [f])))))))) else .nds [.U,.U,.U,.U,.U,.U,.B (decide (d<=f)),f,d,.U,.U,.U,.U,.U,.U,.B (decide (d<=f)),f,d] (.bk [f]))) (fun e=>.pi e fun f e=>.unNil e (bif decide (d>f) then .need (0<=a/\a<(↑n:Int)) (.someA B fun l=>.li (l.add (a.toNat*1)) fun d=>.need (0<=f/\f<(↑n:Int)) (.someA B fun i=>.li (i.add (f.toNat*1)) fun q=>.need (0<=f/\f<(↑n:Int)) (.someA B fun p=>.store ((p.add (f.toNat*1)).add 0) (.int .i64 d) (.need (0<=f/\f<(↑n:Int)) (.someA B fun w=>.ne (.pointer (some (w.add (f.toNat*1)))) (.pointer (some (i.add (f.toNat*1)))) (.nds [f,.S B n o,a,.S B n o] (.need (0<=a/\a<(↑n:Int)) (.someA B fun v=>.store ((v.add (a.toNat*1)).add 0) (.int .i64 q) (.rt (.tuple #[f,true])))))))))) else .need (0<=f/\f<(↑n:Int)) (.someA B fun l=>.li (l.add (f.toNat*1)) fun q=>.need (0<=d/\d<(↑n:Int)) (.someA B fun i=>.li (i.add (d.toNat*1)) fun x=>.need (0<=d/\d<(↑n:Int)) (.someA B fun p=>.store ((p.add (d.toNat*1)).add 0) (.int .i64 q) (.need (0<=d/\d<(↑n:Int)) (.someA B fun w=>.ne (.pointer (some (w.add (d.toNat*1)))) (.pointer (some (i.add (d.toNat*1)))) (.nds [d,.S B n o,f,.S B n o] (.need (0<=f/\f<(↑n:Int)) (.someA B fun v=>.store ((v.add (f.toNat*1)).add 0) (.int .i64 x) (.loop [.int .i64 (wrap .i64 (d+1)),.int .i64 (wrap .i64 (f-1))] (fun e=>.pi e fun d e=>.pi e fun m e=>.unNil e (.loop [d] (fun e=>.pi e fun d e=>.unNil e (bif decide (d<=m) then .need (0<=d/\d<(↑n:Int)) (.someA B fun k=>.li (k.add (d.toNat*1)) fun g=>.need (0<=a/\a<(↑n:Int)) (.someA B fun j=>.li (j.add (a.toNat*1)) fun s=>.cB 199 #[g,s] fun b=>.need (0<=a/\a<(↑n:Int)) (.someA B fun r=>.ne (.pointer (some (r.add (a.toNat*1)))) (.pointer (some (j.add (a.toNat*1)))) (.nds [a,.S B n o] (.need (0<=d/\d<(↑n:Int)) (.someA B fun a=>.ne (.pointer (some (a.add (d.toNat*1)))) (.pointer (some (k.add (d.toNat*1)))) (.nds [d,.S B n o,.B (decide (d<=m)),m,d] (bif b then .ag [.int .i64 (wrap .i64 (d+1))] else .bk [d])))))))) else .nds [.U,.U,.U,.U,.U,.U,.B (decide (d<=m)),m,d] (.bk [d]))) (fun e=>.pi e fun d e=>.unNil e (.loop [m] (fun e=>.pi e fun g e=>.unNil e (bif decide (d<=g) then .need (0<=g/\g<(↑n:Int)) (.someA B fun k=>.li (k.add (g.toNat*1)) fun s=>.need (0<=a/\a<(↑n:Int)) (.someA B fun j=>.li (j.add (a.toNat*1)) fun y=>.cB 199 #[s,y] fun b=>.need (0<=a/\a<(↑n:Int)) (.someA B fun r=>.ne (.pointer (some (r.add (a.toNat*1)))) (.pointer (some (j.add (a.toNat*1)))) (.nds [a,.S B n o] (.need (0<=g/\g<(↑n:Int)) (.someA B fun a=>.ne (.pointer (some (a.add (g.toNat*1)))) (.pointer (some (k.add (g.toNat*1)))) (.nds [g,.S B n o,.B (decide (d<=g)),g,d] (bif !b then .ag [.int .i64 (wrap .i64 (g-1))] else .bk [g])))))))) else .nds [.U,.U,.U,.U,.U,.U,.B (decide (d<=g)),g,d,.U,.U,.U,.U,.U,.U,.B (decide (d<=g)),g,d] (.bk [g]))) (fun e=>.pi e fun g e=>.unNil e (bif decide (d>g) then .bk [d,g] else .need (0<=g/\g<(↑n:Int)) (.someA B fun a=>.li (a.add (g.toNat*1)) fun s=>.need (0<=d/\d<(↑n:Int)) (.someA B fun a=>.li (a.add (d.toNat*1)) fun y=>.need (0<=d/\d<(↑n:Int)) (.someA B fun k=>.store ((k.add (d.toNat*1)).add 0) (.int .i64 s) (.need (0<=d/\d<(↑n:Int)) (.someA B fun j=>.ne (.pointer (some (j.add (d.toNat*1)))) (.pointer (some (a.add (d.toNat*1)))) (.nds [d,.S B n o,g,.S B n o] (.need (0<=g/\g<(↑n:Int)) (.someA B fun a=>.store ((a.add (g.toNat*1)).add 0) (.int .i64 y) (.ag [.int .i64 (wrap .i64 (d+1)),.int .i64 (wrap .i64 (g-1))]))))))))))) (fun e=>.pi e fun g e=>.unNil e (.rn [d,g])) fun t u=>.fail)) (fun e=>.pi e fun d e=>.unNil e (.rn [d,m])) fun t u=>.fail)) (fun e=>.pi e fun d e=>.pi e fun d e=>.unNil e (.need (0<=a/\a<(↑n:Int)) (.someA B fun k=>.li (k.add (a.toNat*1)) fun m=>.need (0<=d/\d<(↑n:Int)) (.someA B fun j=>.li (j.add (d.toNat*1)) fun g=>.need (0<=d/\d<(↑n:Int)) (.someA B fun r=>.store ((r.add (d.toNat*1)).add 0) (.int .i64 m) (.need (0<=d/\d<(↑n:Int)) (.someA B fun D=>.ne (.pointer (some (D.add (d.toNat*1)))) (.pointer (some (j.add (d.toNat*1)))) (.nds [d,.S B n o,a,.S B n o] (.need (0<=a/\a<(↑n:Int)) (.someA B fun E=>.store ((E.add (a.toNat*1)).add 0) (.int .i64 g) (.rt (.tuple #[d,false])))))))))))) (fun e=>.pi e fun d e=>.pi e fun d e=>.unNil e (.rt (.tuple #[.int .i64 0,false]))) fun t u=>.fail))))))))))) (fun e=>.pi e fun d e=>.unNil e (.rt (.tuple #[.int .i64 0,false]))) fun t u=>.fail)) (fun e=>.pi e fun d e=>.unNil e (.rt (.tuple #[.int .i64 0,false]))) fun t u=>.fail)))))))))):=fk [] [⟨0,[(10,.int .i64)],[],[],[],[]⟩,⟨2,[(11,.int .i64)],[],[],[],[]⟩,⟨6,[(10,.int .i64)],[],[],[],[]⟩,⟨8,[(11,.int .i64)],[],[],[],[]⟩,⟨4,[(10,.int .i64),(11,.int .i64)],[],[],[],[]⟩] [] Tryz.f201
theorem w2116:FX X 208 #[.slice B n o,a,b,c] h A (.loop [a] (fun f=>.pi f fun d f=>.unNil f (bif decide (wrap .i64 (wrap .i64 (2*d)+1)>=b) then .bk [d] else .blk (bif decide (wrap .i64 (wrap .i64 (wrap .i64 (2*d)+1)+1)<b) then .need (0<=wrap .i64 (c+wrap .i64 (wrap .i64 (2*d)+1))/\wrap .i64 (c+wrap .i64 (wrap .i64 (2*d)+1))<(↑n:Int)) (.someA B fun g=>.li (g.add ((wrap .i64 (c+wrap .i64 (wrap .i64 (2*d)+1))).toNat*1)) fun e=>.need (0<=wrap .i64 (wrap .i64 (c+wrap .i64 (wrap .i64 (2*d)+1))+1)/\wrap .i64 (wrap .i64 (c+wrap .i64 (wrap .i64 (2*d)+1))+1)<(↑n:Int)) (.someA B fun i=>.li (i.add ((wrap .i64 (wrap .i64 (c+wrap .i64 (wrap .i64 (2*d)+1))+1)).toNat*1)) fun m=>.cB 199 #[e,m] fun l=>.need (0<=wrap .i64 (wrap .i64 (c+wrap .i64 (wrap .i64 (2*d)+1))+1)/\wrap .i64 (wrap .i64 (c+wrap .i64 (wrap .i64 (2*d)+1))+1)<(↑n:Int)) (.someA B fun j=>.ne (.pointer (some (j.add ((wrap .i64 (wrap .i64 (c+wrap .i64 (wrap .i64 (2*d)+1))+1)).toNat*1)))) (.pointer (some (i.add ((wrap .i64 (wrap .i64 (c+wrap .i64 (wrap .i64 (2*d)+1))+1)).toNat*1)))) (.nds [.val (.int .i64 (wrap .i64 (wrap .i64 (c+wrap .i64 (wrap .i64 (2*d)+1))+1))),.val (.int .i64 (wrap .i64 (c+wrap .i64 (wrap .i64 (2*d)+1)))),.val (.int .i64 (wrap .i64 (wrap .i64 (2*d)+1))),c,.S B n o] (.need (0<=wrap .i64 (c+wrap .i64 (wrap .i64 (2*d)+1))/\wrap .i64 (c+wrap .i64 (wrap .i64 (2*d)+1))<(↑n:Int)) (.someA B fun k=>.ne (.pointer (some (k.add ((wrap .i64 (c+wrap .i64 (wrap .i64 (2*d)+1))).toNat*1)))) (.pointer (some (g.add ((wrap .i64 (c+wrap .i64 (wrap .i64 (2*d)+1))).toNat*1)))) (.nds [.val (.int .i64 (wrap .i64 (c+wrap .i64 (wrap .i64 (2*d)+1)))),.val (.int .i64 (wrap .i64 (wrap .i64 (2*d)+1))),c,.S B n o,.B (decide (wrap .i64 (wrap .i64 (wrap .i64 (2*d)+1)+1)<b)),b,.val (.int .i64 (wrap .i64 (wrap .i64 (wrap .i64 (2*d)+1)+1))),.val (.int .i64 (wrap .i64 (wrap .i64 (2*d)+1)))] (bif l then .ag [.int .i64 (wrap .i64 (wrap .i64 (wrap .i64 (2*d)+1)+1))] else .ag [.int .i64 (wrap .i64 (wrap .i64 (2*d)+1))])))))))) else .both (.nds [.U,.U,.U,.U,.B (decide (wrap .i64 (wrap .i64 (wrap .i64 (2*d)+1)+1)<b)),b,.val (.int .i64 (wrap .i64 (wrap .i64 (wrap .i64 (2*d)+1)+1))),.val (.int .i64 (wrap .i64 (wrap .i64 (2*d)+1))),.U,.U,.U,.U,.B (decide (wrap .i64 (wrap .i64 (wrap .i64 (2*d)+1)+1)<b)),b,.val (.int .i64 (wrap .i64 (wrap .i64 (wrap .i64 (2*d)+1)+1))),.val (.int .i64 (wrap .i64 (wrap .i64 (2*d)+1))),.U,.U,.U,.U,.B (decide (wrap .i64 (wrap .i64 (wrap .i64 (2*d)+1)+1)<b)),b,.val (.int .i64 (wrap .i64 (wrap .i64 (wrap .i64 (2*d)+1)+1))),.val (.int .i64 (wrap .i64 (wrap .i64 (2*d)+1))),.U,.U,.U,.U,.B (decide (wrap .i64 (wrap .i64 (wrap .i64 (2*d)+1)+1)<b)),b] (.nds [.val (.int .i64 (wrap .i64 (wrap .i64 (wrap .i64 (2*d)+1)+1))),.val (.int .i64 (wrap .i64 (wrap .i64 (2*d)+1)))] (.ag [.int .i64 (wrap .i64 (wrap .i64 (2*d)+1))]))) (.nds [.U,.U,.U,.U,.B (decide (wrap .i64 (wrap .i64 (wrap .i64 (2*d)+1)+1)<b)),b,.val (.int .i64 (wrap .i64 (wrap .i64 (wrap .i64 (2*d)+1)+1))),.val (.int .i64 (wrap .i64 (wrap .i64 (2*d)+1)))] (.both (.nds [.U,.U,.B (decide (wrap .i64 (wrap .i64 (wrap .i64 (2*d)+1)+1)<b)),b,.val (.int .i64 (wrap .i64 (wrap .i64 (wrap .i64 (2*d)+1)+1))),.val (.int .i64 (wrap .i64 (wrap .i64 (2*d)+1))),.U,.U,.U,.U,.B (decide (wrap .i64 (wrap .i64 (wrap .i64 (2*d)+1)+1)<b)),b,.val (.int .i64 (wrap .i64 (wrap .i64 (wrap .i64 (2*d)+1)+1))),.val (.int .i64 (wrap .i64 (wrap .i64 (2*d)+1))),.U,.U,.U,.U,.B (decide (wrap .i64 (wrap .i64 (wrap .i64 (2*d)+1)+1)<b)),b,.val (.int .i64 (wrap .i64 (wrap .i64 (wrap .i64 (2*d)+1)+1))),.val (.int .i64 (wrap .i64 (wrap .i64 (2*d)+1)))] (.ag [.int .i64 (wrap .i64 (wrap .i64 (2*d)+1))])) (.nds [.U,.U,.U,.U,.B (decide (wrap .i64 (wrap .i64 (wrap .i64 (2*d)+1)+1)<b)),b,.val (.int .i64 (wrap .i64 (wrap .i64 (wrap .i64 (2*d)+1)+1))),.val (.int .i64 (wrap .i64 (wrap .i64 (2*d)+1))),.U,.U,.U,.U,.B (decide (wrap .i64 (wrap .i64 (wrap .i64 (2*d)+1)+1)<b)),b,.val (.int .i64 (wrap .i64 (wrap .i64 (wrap .i64 (2*d)+1)+1))),.val (.int .i64 (wrap .i64 (wrap .i64 (2*d)+1))),.U,.U,.U,.U,.B (decide (wrap .i64 (wrap .i64 (wrap .i64 (2*d)+1)+1)<b)),b,.val (.int .i64 (wrap .i64 (wrap .i64 (wrap .i64 (2*d)+1)+1))),.val (.int .i64 (wrap .i64 (wrap .i64 (2*d)+1)))] (.ag [.int .i64 (wrap .i64 (wrap .i64 (2*d)+1))]))))) (fun f=>.pi f fun e f=>.unNil f (.need (0<=wrap .i64 (c+d)/\wrap .i64 (c+d)<(↑n:Int)) (.someA B fun g=>.li (g.add ((wrap .i64 (c+d)).toNat*1)) fun m=>.need (0<=wrap .i64 (c+e)/\wrap .i64 (c+e)<(↑n:Int)) (.someA B fun i=>.li (i.add ((wrap .i64 (c+e)).toNat*1)) fun r=>.cB 199 #[m,r] fun l=>.need (0<=wrap .i64 (c+e)/\wrap .i64 (c+e)<(↑n:Int)) (.someA B fun j=>.ne (.pointer (some (j.add ((wrap .i64 (c+e)).toNat*1)))) (.pointer (some (i.add ((wrap .i64 (c+e)).toNat*1)))) (.nds [.val (.int .i64 (wrap .i64 (c+e))),e,c,.S B n o] (.need (0<=wrap .i64 (c+d)/\wrap .i64 (c+d)<(↑n:Int)) (.someA B fun k=>.ne (.pointer (some (k.add ((wrap .i64 (c+d)).toNat*1)))) (.pointer (some (g.add ((wrap .i64 (c+d)).toNat*1)))) (.nds [.val (.int .i64 (wrap .i64 (c+d))),d,c,.S B n o] (bif !l then .rn [d] else .need (0<=wrap .i64 (c+e)/\wrap .i64 (c+e)<(↑n:Int)) (.someA B fun g=>.li (g.add ((wrap .i64 (c+e)).toNat*1)) fun s=>.need (0<=wrap .i64 (c+d)/\wrap .i64 (c+d)<(↑n:Int)) (.someA B fun g=>.li (g.add ((wrap .i64 (c+d)).toNat*1)) fun t=>.need (0<=wrap .i64 (c+d)/\wrap .i64 (c+d)<(↑n:Int)) (.someA B fun p=>.store ((p.add ((wrap .i64 (c+d)).toNat*1)).add 0) (.int .i64 s) (.need (0<=wrap .i64 (c+d)/\wrap .i64 (c+d)<(↑n:Int)) (.someA B fun q=>.ne (.pointer (some (q.add ((wrap .i64 (c+d)).toNat*1)))) (.pointer (some (g.add ((wrap .i64 (c+d)).toNat*1)))) (.nds [.val (.int .i64 (wrap .i64 (c+d))),d,c,.S B n o,.val (.int .i64 (wrap .i64 (c+e))),e,c,.S B n o] (.need (0<=wrap .i64 (c+e)/\wrap .i64 (c+e)<(↑n:Int)) (.someA B fun g=>.store ((g.add ((wrap .i64 (c+e)).toNat*1)).add 0) (.int .i64 t) (.ag [e]))))))))))))))))))) (fun f=>.pi f fun e f=>.unNil f (.rn [d])) fun u v=>.fail)) (fun f=>.pi f fun d f=>.unNil f (.rt (.tuple #[]))) (fun f=>.pi f fun d f=>.unNil f (.rt (.tuple #[]))) fun u v=>.fail):=fk [] [⟨0,[(8,.int .i64)],[],[],[],[]⟩] [⟨5,[(9,.int .i64)],[],[],[],[]⟩] Tryz.f208
theorem w2117:FX X 209 #[a] h A (.cI 173 #[.int .u64 (IntKind.wrap .u64 a)] fun b=>.need (0<=b) (.rt (.int .u64 (IntKind.wrap .u64 (1*2^min (b.toNat) 64))))):=fk [] [] [] Tryz.f209
theorem w2118:FX X 210 #[.pointer B] h A (.someA B fun a=>.loadI .u64 a fun b=>.someA B fun a=>.loadI .u64 a fun c=>.need ((0:Int)<=13) (.someA B fun a=>.store (a.add 0) (.int .u64 (IntKind.wrap .u64 (↑(BitVec.toNat (BitVec.ofInt 64 b ^^^ BitVec.ofInt 64 (IntKind.wrap .u64 (c*2^13)))):Int))) (.someA B fun a=>.loadI .u64 a fun b=>.someA B fun a=>.loadI .u64 a fun d=>.need ((0:Int)<=7) (.someA B fun a=>.store (a.add 0) (.int .u64 (IntKind.wrap .u64 (↑(BitVec.toNat (BitVec.ofInt 64 b ^^^ BitVec.ofInt 64 (Int.fdiv d (2^7)))):Int))) (.someA B fun a=>.loadI .u64 a fun b=>.someA B fun a=>.loadI .u64 a fun e=>.need ((0:Int)<=17) (.someA B fun a=>.store (a.add 0) (.int .u64 (IntKind.wrap .u64 (↑(BitVec.toNat (BitVec.ofInt 64 b ^^^ BitVec.ofInt 64 (IntKind.wrap .u64 (e*2^17)))):Int))) (.someA B fun a=>.loadI .u64 a fun b=>.rt (.int .u64 b)))))))):=fk [] [] [] Tryz.f210
theorem w2120:FX X 212 #[.slice B n o,a,b,c,.pointer C] h A (.cT 215 #[.slice B n o,a,b,.pointer C] fun d e=>.ui d fun f=>.unCons e fun d e=>.ui d fun g=>.unNil e (.cT 215 #[.slice B n o,g,c,.pointer C] fun d e=>.ui d fun i=>.unCons e fun d e=>.ui d fun j=>.unNil e (.cT 215 #[.slice B n o,f,i,.pointer C] fun d e=>.ui d fun f=>.unCons e fun d e=>.ui d fun f=>.unNil e (.rt (.int .i64 f))))):=fk [] [] [] Tryz.f212
theorem w2121:FX X 215 #[.slice B n o,a,b,.pointer C] h A (.need (0<=b/\b<(↑n:Int)) (.someA B fun d=>.li (d.add (b.toNat*1)) fun c=>.need (0<=a/\a<(↑n:Int)) (.someA B fun e=>.li (e.add (a.toNat*1)) fun l=>.cB 199 #[c,l] fun k=>.need (0<=a/\a<(↑n:Int)) (.someA B fun f=>.ne (.pointer (some (f.add (a.toNat*1)))) (.pointer (some (e.add (a.toNat*1)))) (.nds [a,.S B n o] (.need (0<=b/\b<(↑n:Int)) (.someA B fun g=>.ne (.pointer (some (g.add (b.toNat*1)))) (.pointer (some (d.add (b.toNat*1)))) (.nds [b,.S B n o] (bif k then .someA C fun i=>.li i fun c=>.someA C fun j=>.store (j.add 0) (.int .i64 (wrap .i64 (c+1))) (.rt (.tuple #[b,a])) else .rt (.tuple #[a,b])))))))))):=fk [] [] [] Tryz.f215
end Go.Y
end
