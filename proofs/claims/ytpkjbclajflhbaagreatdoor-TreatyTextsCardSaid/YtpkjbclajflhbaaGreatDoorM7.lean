/- Contracts and laws for the proof, joined by a program. No condition. -/
import Derived.Test.YtpkjbclajflhbaaGreatDoorM6
set_option linter.all false
noncomputable section
open Go Go.Conc Go.TM Go.Proofs
set_option maxRecDepth 100000
open Go.IntKind (wrap)
section
namespace Go.Y.Txt
open Go.TM.Tp
open Go.Lib (decDigits)
attribute [local irreducible] T.wp CV FWK
variable {h:LH}{p:Option Addr}{n:Nat}
theorem c3734(C:PowT 5 h.get){c:Nat}{l:List Int}(s:Sl IntE 1 h.get p n l)(G:l.length<=2^19)(B:∀ v∈l,Sm v):Gr Tryz.prog 66 #[.slice p n c] h fun r h'=>∃ q m k,r=.slice q m k/\BsS h' q m k (l.map di)/\Growing BsEnc 9 1 h.get h'.get q m k (l.map di):=by
 refine w3734 Qr ?_;have H:=s.1;refine Jl (fun w vs h'=>h.le h'/\∃ (q:Option Addr) (m k i:Nat),vs=[.slice q m k,.int .i64 i]/\i<=n/\w=n-i/\Growing BsEnc 9 1 h.get h'.get q m k ((l.take i).map di)) (fun vs h'=>h.le h'/\∃ (q:Option Addr) (m k:Nat) (i:Int),vs=[.slice q m k,.int .i64 i]/\Growing BsEnc 9 1 h.get h'.get q m k (l.map di))
  ⟨LH.le_refl _,none,0,0,0,rfl,Nat.zero_le _,rfl,Growing.nil⟩ ?_ ?_
 ·rintro Y w vs h1 z ⟨b,q,m,k,i,rfl,F,rfl,g⟩;refine yJ (fun y=>?_) (fun y=>?_)
  ·have t:=List.getElem?_eq_getElem (show i<l.length by omega);have e:=List.getElem_mem (show i<l.length by omega);generalize l[i]=x at t e;obtain⟨a,A,j⟩:=(s.le IntE.grow b.1).2.2 i x t;unfold IntE at j;rw[U5]at j;have o:0<=(i:Int)/\(i:Int)<(n:Int):=by omega
   have d:=B x e;obtain⟨v,rfl⟩ : ∃ v:Nat,x=v:=⟨x.toNat,by have:=d.1;omega⟩
   have D:=d.2;refine gT o (gS2 A (gL0 (by rw[Int.toNat_natCast];exact j) ?_));refine t_gr (c3741 (C.le b.1) v (by omega)) ?_;rintro _ h2 f rfl;refine Qs ?_;refine W9 (di (v:Int)) (by rw[List.length_map,List.length_take];omega) (g.le f.1) (LH.le_trans b f) fun E c' h' u _ g'=>?_;refine Qj (z (n-(i+1)) _ _ (by omega) ⟨u,E,m+1,c',i+1,?_,by omega,rfl,?_⟩)
   ·rw[Qm (by omega) (by omega)];rfl
   ·rw[J3 t,List.map_append];exact g'
  ·rw[List.take_of_length_le (by omega)]at g;exact gH ⟨b,q,m,k,_,rfl,g⟩
 ·rintro vs h1 ⟨b,q,m,k,i,rfl,g⟩;refine gZ ?_;exact Qh ⟨b,q,m,k,rfl,growS g (by rw[List.length_map];omega),g⟩
theorem c3733{h0:LH}{r:Nat}{l w:Bs}{k:Nat}{fs:List Bs}(b:BldR h0 h r l)(s:BsS h p n k fs)(a:fs≠[])(hw:w.length<=2^20)(d:fs.length<=2^20)(f:(joinS 59 fs).length<=2^28)(hlen:l.length<=2^28) :
  FW X0 Tryz.prog 65 #[.string (str w),.slice p n k,.pointer (some ⟨r,0,none⟩)] h fun v h'=>v=.tuple #[]/\BldR h0 h' r (l++lineS w fs):=by
 refine w3733 Qr ?_;refine K9 (b:=[58]) undS (by simp;omega) (Qs ?_);refine gZ ?_;refine t_gr (c3716 s 59 d (by omega)) ?_;rintro _ h1 c rfl;refine Qs ?_;refine K9 undS (by simp;omega) (Qs ?_);refine K9 (b:=[59,10]) undS (by simp;omega) (Qs ?_);have e:w++[58]++joinS 59 fs++[59,10]=lineS w fs:=by rw[lineS_join a];simp
 rw[e];have hle:(lineS w fs).length<=2^29:=by rw[<- e];simp;omega
 refine Jp (c3715 (b.grow c) (by omega)) ?_;rintro _ h2 ⟨rfl,b2⟩;refine gZ ?_;exact Qh ⟨rfl,b2⟩
end Go.Y.Txt
end
namespace Go.Y.Tre
section
open Go.TM.Tr
attribute [local irreducible] T.wp CV FWK
variable {h:LH}{f:TC}{x:TF}
theorem c2057{e:Ev}{q:Option Addr}{m c:Nat}(B:IsI (x.lands-1))(A:IsI (x.items-1))(t:Sl IntE 1 h.get q m e.items) :
  Pu Tryz.prog 125 #[treatyV f x,.agg #[.int .i64 e.kind,.int .i64 e.day,.int .i64 e.land,.slice q m c,.int .i64 e.since]] h (.int .i64 (eventT x e)):=by
 refine w2057 Qr ?_;have hm:=t.1;have hb:=t.2.1;refine Ja (fun vs h'=>vs=[.int .i64 0]/\(inB e.kind 0 6&&(dayB e.day&&dayB e.since))=true/\h=h') ?_ ?_
 ·have bad:(inB e.kind 0 6&&(dayB e.day&&dayB e.since))=false->eventT x e=1:=fun hb=>by rw[eventT,if_pos hb]
  refine t_if (fun u=>?_) (fun u=>?_)
  ·refine gI ?_;refine gZ ?_;exact Qh ⟨by rw[bad (by rw[show inB e.kind 0 6=false by unfold inB;rw[decide_eq_false (by omega),Bool.false_and]];rfl)],rfl⟩
  refine t_if (fun v=>?_) (fun v=>?_)
  ·refine gI ?_;refine gZ ?_;exact Qh ⟨by rw[bad (by rw[show inB e.kind 0 6=false by unfold inB;rw[decide_eq_false (p:=e.kind<=6) (by omega),Bool.and_false]];rfl)],rfl⟩
  have J:inB e.kind 0 6=true:=by unfold inB;rw[decide_eq_true (by omega),decide_eq_true (by omega)];rfl
  refine t_pu (c2056 _) ?_;refine yI (fun g=>?_) (fun g=>?_)
  ·refine gI ?_;refine gZ ?_;have:dayB e.day=false:=by simpa using g
   exact Qh ⟨by rw[bad (by rw[this];simp)],rfl⟩
  have H:dayB e.day=true:=by simpa using g
  refine t_pu (c2056 _) ?_;refine yI (fun g=>?_) (fun g=>?_)
  ·refine gI ?_;refine gZ ?_;have:dayB e.since=false:=by simpa using g
   exact Qh ⟨by rw[bad (by rw[this];simp)],rfl⟩
  have he:dayB e.since=true:=by simpa using g
  exact Qj ⟨rfl,by rw[J,H,he];rfl,rfl⟩
 rintro vs _ ⟨rfl,E,rfl⟩;have j:eventT x e=if inB e.land 0 (x.lands-1)=false then 6 else if itemsT e.items x.items≠0 then itemsT e.items x.items else if (e.kind=4/\e.land≠0)\/(e.kind≠4/\e.kind≠6/\e.since≠0) then 1 else if e.since>e.day then 7 else 0:=by
  rw[eventT,if_neg (by rw[E];simp)]
 refine gZ ?_;rw[Qm B.1 B.2];refine t_pu (c49 _ _ _) ?_;refine yI (fun d=>?_) (fun d=>?_)
 ·refine Qh ⟨?_,rfl⟩;rw[j,if_pos (by simpa using d)]
 have k:eventT x e=if itemsT e.items x.items≠0 then itemsT e.items x.items else if (e.kind=4/\e.land≠0)\/(e.kind≠4/\e.kind≠6/\e.since≠0) then 1 else if e.since>e.day then 7 else 0:=by
  rw[j,if_neg (by simp at d;simp[d])]
 refine Je (fun D vs h'=>h=h'/\∃ i:Nat,vs=[.int .i64 0,.int .i64 i]/\i<=m/\D=m-i/\itemsT e.items x.items=firstT (Tr.stepT e.items x.items) i (e.items.drop i)) ⟨rfl,0,rfl,Nat.zero_le _,rfl,rfl⟩ ?_;rintro Y D vs _ F ⟨rfl,i,rfl,I,rfl,hc⟩;refine yJ (fun u=>?_) (fun u=>?_)
 ·obtain⟨y,a,C,G,v⟩:=t.at (i:=i) (by omega);unfold IntE at v;rw[Jy C,firstT]at hc;refine gZ ?_;rw[Qm A.1 A.2];refine t_pu (c49 _ _ _) ?_;refine gZ ?_;have next:Tr.stepT e.items x.items i y=0->Y [.int .i64 0,.int .i64 (wrap .i64 ((i:Int)+1))] h:=by
   intro o;rw[if_neg (by rw[o];simp)]at hc;refine F (m-(i+1)) _ _ (by omega) ⟨rfl,i+1,?_,by omega,rfl,hc⟩;rw[Qm (by omega) (by omega)];rfl
  have stop:∀ z:Int,z≠0->Tr.stepT e.items x.items i y=z->eventT x e=z:=by
   intro z o hr;rw[hr,if_pos o]at hc;rw[k,hc,if_pos o]
  refine Qt (fun d1=>?_) (fun d1=>?_)
  ·refine gZ ?_;refine Qh ⟨?_,rfl⟩;rw[stop 6 (by decide) (by rw[Tr.stepT,if_pos (by simpa using d1)])]
  have n:¬ inB y 0 (x.items-1)=false:=by simp at d1;simp[d1]
  refine t_if (fun d2=>?_) (fun d2=>?_)
  ·obtain⟨z,K,o,r,g⟩:=t.at (i:=i-1) (by omega);unfold IntE at g;rw[G]at r;cases r;have w:wrap .i64 ((i:Int)-1)=((i-1:Nat):Int):=by rw[Qm (by omega) (by omega)];omega
   have l:=itemsT_run (b:=x.items) C (fun _=>o);rw[w];refine yJ (fun d3=>?_) (fun d3=>?_)
   ·refine gZ ?_;refine Qh ⟨?_,rfl⟩;rw[stop 7 (by decide) (by rw[l,if_neg n,if_pos ⟨by omega,d3⟩])]
   ·exact Qj (next (by rw[l,if_neg n,if_neg (by omega)]))
  ·refine gZ ?_;exact Qj (next (by rw[Tr.stepT,if_neg n,if_neg (by omega)]))
 ·refine gZ ?_;rw[List.drop_eq_nil_of_le (by omega),firstT]at hc;have s:eventT x e=if (e.kind=4/\e.land≠0)\/(e.kind≠4/\e.kind≠6/\e.since≠0) then 1 else if e.since>e.day then 7 else 0:=by
   rw[k,if_neg (by rw[hc];simp)]
  rw[s]
  repeat' first
   | (refine Qt (fun _=>?_) (fun _=>?_))
   | (refine Qh ⟨?_,rfl⟩)
  all_goals (congr 1;simp_all;try omega)
theorem c2022(s:TreatyR h.get f x):Pu Tryz.prog 67 #[treatyV f x] h (.int .i64 (checkT x)):=by
 refine w2022 Qr ?_;have E:=s.2.1;have hb:=s.2.2.1;refine Ja (fun vs h'=>vs=[.int .i64 0]/\numsB x=true/\h=h') ?_ ?_
 ·refine t_pu (c49 _ _ _) ?_;refine yI (fun e=>?_) (fun j=>?_)
  ·refine gI ?_;refine gZ ?_;exact Qh ⟨by rw[Jn (not_and_false (by simpa using e))],rfl⟩
  have j:inB x.items 0 5=true:=by simpa using j
  refine t_pu (c49 _ _ _) ?_;refine yI (fun e=>?_) (fun g=>?_)
  ·refine gI ?_;refine gZ ?_;have e:inB x.lands 1 3=false:=by simpa using e
   exact Qh ⟨by rw[Jn (by simp[numsB,e])],rfl⟩
  have g:inB x.lands 1 3=true:=by simpa using g
  refine t_pu (c2056 _) ?_;refine yI (fun e=>?_) (fun k=>?_)
  ·refine gI ?_;refine gZ ?_;have e:dayB x.start=false:=by simpa using e
   exact Qh ⟨by rw[Jn (by simp[numsB,e])],rfl⟩
  have k:dayB x.start=true:=by simpa using k
  refine t_pu (c2056 _) ?_;refine yI (fun e=>?_) (fun l=>?_)
  ·refine gI ?_;refine gZ ?_;have e:dayB x.depend=false:=by simpa using e
   exact Qh ⟨by rw[Jn (by simp[numsB,e])],rfl⟩
  have l:dayB x.depend=true:=by simpa using l
  refine t_pu (c2056 _) ?_;refine yI (fun e=>?_) (fun o=>?_)
  ·refine gI ?_;refine gZ ?_;have e:dayB x.refuse=false:=by simpa using e
   exact Qh ⟨by rw[Jn (by simp[numsB,e])],rfl⟩
  have o:dayB x.refuse=true:=by simpa using o
  refine t_pu (c2056 _) ?_;refine yI (fun e=>?_) (fun p=>?_)
  ·refine gI ?_;refine gZ ?_;have e:dayB x.turn=false:=by simpa using e
   exact Qh ⟨by rw[Jn (by simp[numsB,e])],rfl⟩
  have p:dayB x.turn=true:=by simpa using p
  exact Qj ⟨rfl,by simp[numsB,j,g,k,l,o,p],rfl⟩
 rintro vs _ ⟨rfl,b,rfl⟩;refine yJ (fun e=>?_) (fun e=>?_)
 ·exact Qh ⟨by rw[checkT_many b (by omega)],rfl⟩
 have r:=checkT_each b (by omega);refine Je (fun t vs h'=>h=h'/\∃ i:Nat,vs=[.int .i64 0,.int .i64 i]/\i<=f.n/\t=f.n-i/\checkT x=firstT (fun _ e=>eventT x e) i (x.events.drop i)) ⟨rfl,0,rfl,Nat.zero_le _,rfl,r⟩ ?_;rintro Y t vs _ u ⟨rfl,i,rfl,D,rfl,hc⟩;refine yJ (fun g=>?_) (fun g=>?_)
 ·obtain⟨y,a,v,C,w,z,A,⟨q,m,c,B,_,g5⟩,g4⟩:=s.2.at (i:=i) (by omega);rw[Jy v,firstT]at hc;refine gZ ?_;refine t_pu (c2057 (h:=h) (f:=f) (x:=x) (e:=y) (U9 b).1 (U9 b).2 g5) ?_;refine yI (fun d=>?_) (fun d=>?_)
  ·refine gZ ?_;rw[if_pos (by simpa using d)]at hc;exact Qh ⟨by rw[hc],rfl⟩
  ·rw[if_neg (by simpa using d)]at hc;refine Qj (u (f.n-(i+1)) _ _ (by omega) ⟨rfl,i+1,?_,by omega,rfl,hc⟩);rw[Qm (by omega) (by omega)];rfl
 ·refine gZ ?_;rw[List.drop_eq_nil_of_le (by omega),firstT]at hc;exact Qh ⟨by rw[hc],rfl⟩
end
section
open Go.TM.Tr
attribute [local irreducible] T.wp CV FWK
def matV(f:TC)(x:TF)(k i:Int):Value:=.agg #[.int .i64 x.items,.int .i64 x.lands,.int .i64 x.start,.int .i64 x.depend,.int .i64 x.refuse,.int .i64 x.turn,.slice f.p f.n f.c,.int .i64 k,.int .i64 i]
structure MatAt(h:Cells)(a:Addr)(f:TC)(x:TF)(k i:Int):Prop where
 f0:h.cell? ((a.add 0).add 0)=some (.int .i64 x.items)
 f1:h.cell? ((a.add 0).add 1)=some (.int .i64 x.lands)
 f2:h.cell? ((a.add 0).add 2)=some (.int .i64 x.start)
 f3:h.cell? ((a.add 0).add 3)=some (.int .i64 x.depend)
 f4:h.cell? ((a.add 0).add 4)=some (.int .i64 x.refuse)
 f5:h.cell? ((a.add 0).add 5)=some (.int .i64 x.turn)
 f6:h.cell? ((a.add 0).add 6)=some (.slice f.p f.n f.c)
 f7:h.cell? ((a.add 0).add 7)=some (.int .i64 k)
 f8:h.cell? ((a.add 0).add 8)=some (.int .i64 i)
variable {h:LH}{a:Addr}{f:TC}{x:TF}{k i:Int}{K:Nat}{X:XP}
theorem MatAt.rd{h h':Cells}(b:Rd h h')(m:MatAt h a f x k i):MatAt h' a f x k i :=
 ⟨b _ _ m.f0,b _ _ m.f1,b _ _ m.f2,b _ _ m.f3,b _ _ m.f4,b _ _ m.f5,b _ _ m.f6,b _ _ m.f7,b _ _ m.f8⟩
theorem MatAt.le{h h':Cells}{a:Addr}{f:TC}{x:TF}{k i:Int}(b:h.le h')(m:MatAt h a f x k i):MatAt h' a f x k i:=m.rd (Jj b)
theorem G6(a:Addr):a.add 0=a:=by unfold Addr.add;simp
theorem add_zero2(a:Addr)(i:Nat):(a.add 0).add i=a.add i:=by rw[G6]
theorem MatAt.s7{h:Cells}(m:MatAt h a f x k i):h.cell? (a.add 7)=some (.int .i64 k):=by have:=m.f7;rwa[add_zero2]at this
theorem MatAt.s8{h:Cells}(m:MatAt h a f x k i):h.cell? (a.add 8)=some (.int .i64 i):=by have:=m.f8;rwa[add_zero2]at this
def allB(K:Nat)(k i:Int)(e:Ev):Bool:=(e.kind==(K:Int))&&((!landK K||(e.land==k))&&e.items.contains i)
theorem Kv(a:K≠4)(k i:Int)(e:Ev):allB K k i e=about e K k i:=by
 unfold allB about landK;have:Nat.beq K 4=false:=by
  cases hb:Nat.beq K 4 with
  | false=>rfl
  | true=>exact absurd (Nat.eq_of_beq_eq_true hb) a
 simp[this]
def handedE{α:Type}(V:Nat->Value)(s:α->Bool):List α->Nat->List (List Value)
 | [],_=>[]
 | x::l,i=>if s x then [V i]::handedE V s l (i+1) else handedE V s l (i+1)
theorem handedE_len{α:Type}(V:Nat->Value)(s:α->Bool):∀ (l:List α) (i:Nat),(handedE V s l i).length=(l.filter s).length:=by
 intro l
 induction l with
 | nil=>intro i;rfl
 | cons x l a=>intro i;rw[handedE,List.filter_cons];split<;>simp[a]
theorem handedE_get{α:Type}(V:Nat->Value)(s:α->Bool):∀ (l:List α) (i k:Nat) xs,(handedE V s l i)[k]?=some xs->∃ x j,(l.filter s)[k]?=some x/\l[j]?=some x/\xs=[V (i+j)]:=by
 intro l
 induction l with
 | nil=>intro i k xs h;simp[handedE]at h
 | cons x l b =>
  intro i k xs h;rw[handedE]at h;rw[List.filter_cons];split at h
  ·rename_i a;rw[if_pos a];cases k with
   | zero=>simp at h;exact⟨x,0,rfl,rfl,by simp[<- h]⟩
   | succ k =>
    obtain⟨y,j,h1,h2,h3⟩:=b (i+1) k xs (by simpa using h);exact⟨y,j+1,by simpa using h1,by simpa using h2,by rw[h3,show i+1+j=i+(j+1) by omega]⟩
  ·rename_i a;rw[if_neg a];obtain⟨y,j,h1,h2,h3⟩:=b (i+1) k xs h;exact⟨y,j+1,h1,by simpa using h2,by rw[h3,show i+1+j=i+(j+1) by omega]⟩
def evV(e:Ev)(q:Option Addr)(m c:Nat):Value:=.agg #[.int .i64 e.kind,.int .i64 e.day,.int .i64 e.land,.slice q m c,.int .i64 e.since]
theorem hands2095(U:XOK X){h₀:LH}(hk:Kinds h₀.get){O P:Addr}(Q:K<7)(hm:MatAt h₀.get O f x k i)(N:h₀.get.cell? P=some (.int .i64 (K:Int)))(hx:TreatyR h₀.get f x) :
  ∃ L,L.length=(x.events.filter (allB K k i)).length/\(∀ (j:Nat) xs,L[j]?=some xs->∃ e q m c,(x.events.filter (allB K k i))[j]?=some e/\xs=[evV e q m c]/\Sl IntE 1 h₀.get q m e.items) /\
   Hands X Tryz.prog (.func (.func 189) #[] #[.pointer (some O),.pointer (some P)]) h₀ L:=by
 have I:=hx.2;let R:Nat->Value->Prop:=fun j v=>∃ e a q m c,x.events[j]?=some e/\f.p=some a/\v=evV e q m c/\h₀.get.cell? ((a.add (j*5)).add 0)=some (.int .i64 e.kind)/\h₀.get.cell? ((a.add (j*5)).add 1)=some (.int .i64 e.day)/\h₀.get.cell? ((a.add (j*5)).add 2)=some (.int .i64 e.land)/\h₀.get.cell? ((a.add (j*5)).add 3)=some (.slice q m c)/\h₀.get.cell? ((a.add (j*5)).add 4)=some (.int .i64 e.since)/\Sl IntE 1 h₀.get q m e.items;have hR:∀ j e,x.events[j]?=some e->∃ v,R j v:=by
  intro j e he;obtain⟨a,Z,B,o,t,⟨q,m,c,u,_,e5⟩,e6⟩:=I.2.2 j e he;exact⟨_,e,a,q,m,c,he,Z,rfl,B,o,t,u,e6,e5⟩
 let V:Nat->Value:=fun j=>Classical.epsilon (R j);have S:∀ j e,x.events[j]?=some e->R j (V j):=fun j e he=>Classical.epsilon_spec (hR j e he);refine⟨handedE V (allB K k i) x.events 0,handedE_len _ _ _ _,?_,?_⟩
 ·intro j xs hj;obtain⟨e,j',h1,h2,h3⟩:=handedE_get _ _ _ _ _ _ hj;rw[Nat.zero_add]at h3;obtain⟨e',a,q,m,c,w,_,g3,_,_,_,_,_,g8⟩:=S j' e h2;rw[h2]at w;cases w;exact⟨e,q,m,c,h1,by rw[h3,g3],g8⟩
 ·intro y J E _ _ l h hle hJ;generalize hL:handedE V (allB K k i) x.events 0=L at l ⊢;refine H2 U (by rfl) (?_:FW X Tryz.prog 189 #[y,.pointer (some O),.pointer (some P)] h _);refine w2095 U ?_;have hn:=I.1;have hb:=I.2.1;have y6:=Qo hle.1 hm.f6;refine gL1 y6 ?_;refine Je (fun mm vs h'=>h₀.le h'/\∃ (j cnt:Nat),vs=[.int .i64 j]/\j<=f.n/\mm=f.n-j/\J cnt h'/\cnt<=L.length/\L.drop cnt=handedE V (allB K k i) (x.events.drop j) j) (n:=f.n) ⟨hle,0,0,rfl,Nat.zero_le _,by omega,hJ,Nat.zero_le _,by rw[<- hL];rfl⟩ ?_;rintro Y mm vs h₁ W ⟨g,j,cnt,rfl,hj,rfl,s,F,d⟩;refine yJ (fun B=>?_) (fun B=>?_)
  ·obtain⟨e,he⟩ : ∃ e,x.events[j]?=some e:=⟨x.events[j]'(by omega),List.getElem?_eq_getElem (by omega)⟩
   obtain⟨e',a,q,m,c,w,Z,D,c0,c1,c2,c3,c4,G⟩:=S j e he;rw[he]at w;cases w;have d0:=Qo g.1 c0;have d1:=Qo g.1 c1;have d2:=Qo g.1 c2;have d3:=Qo g.1 c3;have d4:=Qo g.1 c4;have w1:=Qo g.1 N;have m1:=hm.le g.1;have w7:=m1.s7;have w8:=m1.s8;have kl:=(hk.le g.1).landAt' Q;have g0:=(hk.le g.1).landAt Q;rw[Jy he,handedE]at d;refine gZ ?_;have skip:allB K k i e=false->Y [.int .i64 (wrap .i64 ((j:Int)+1))] h₁:=by
    intro H;rw[if_neg (by rw[H];simp)]at d;refine W (f.n-(j+1)) _ _ (by omega) ⟨g,j+1,cnt,?_,by omega,rfl,s,F,d⟩;rw[Qm (by omega) (by omega)];rfl
   refine Ja (fun vs h'=>vs=[.bool (!landK K||(e.land==k))]/\h₁=h') ?_ ?_
   ·refine yI (fun o=>?_) (fun o=>?_)
    ·exact Qj ⟨by simp at o;rw[o];rfl,rfl⟩
    ·refine gZ ?_;exact Qj ⟨by simp at o;rw[o];rfl,rfl⟩
   rintro vs _ ⟨rfl,rfl⟩;refine yI (fun o=>?_) (fun o=>?_)
   ·refine Qt (fun t=>?_) (fun t=>?_)
    ·refine gZ ?_;refine t_pu (c100 (G.le IntE.grow g.1) i) ?_;refine yI (fun u=>?_) (fun u=>?_)
     ·have M:allB K k i e=true:=by unfold allB;rw[o,t,u];rfl
      rw[if_pos M]at d;have r:L[cnt]?=some [V j]:=by
       have:(L.drop cnt)[0]?=some [V j]:=by rw[d];rfl
       simpa using this
      have e0:cnt<L.length:=(List.getElem?_eq_some_iff.1 r).1;have z:=l cnt h₁ [V j] g r s;rw[D]at z;refine J9 z ?_;rintro b a0 ⟨A,⟨rfl,C⟩|⟨rfl,hE⟩⟩
      ·refine yF ?_;refine Qj (W (f.n-(j+1)) _ _ (by omega) ⟨A,j+1,cnt+1,?_,by omega,rfl,C,by omega,?_⟩)
       ·rw[Qm (by omega) (by omega)];rfl
       ·rw[<- List.drop_drop,d];rfl
      ·refine yT ?_;refine gZ ?_;exact Qh ⟨A,.inr hE⟩
     ·exact Qj (skip (by unfold allB;rw[u];simp))
    ·exact Qj (skip (by unfold allB;rw[t];simp))
   ·exact Qj (skip (by unfold allB;rw[o];rfl))
  ·refine gZ ?_;refine Qh ⟨g,.inl ?_⟩;rw[List.drop_eq_nil_of_le (by omega:x.events.length<=j),handedE]at d;have:cnt=L.length:=by
    have:=List.drop_eq_nil_iff.1 d;omega
   rw[<- this];exact s
theorem c2083(f:TC)(x:TF)(k i:Int)(K:Int):Gr Tryz.prog 161 #[matV f x k i,K] h fun r h'=>∃ d e,r=.func (.func 189) #[] #[.pointer (some d),.pointer (some e)]/\MatAt h'.get d f x k i/\h'.get.cell? e=some (.int .i64 K):=by
 refine w2083 Qr ?_;refine Kg fun r hr=>?_;refine Kg fun r1 a=>?_;have g:h.le _:=Q1 (x:=(true,.cells #[.int .i64 x.items,.int .i64 x.lands,.int .i64 x.start,.int .i64 x.depend,.int .i64 x.refuse,.int .i64 x.turn,.slice f.p f.n f.c,.int .i64 k,.int .i64 i] 196 (0,0))) hr;have b:=Q1 (x:=(true,.cells #[.int .i64 K] 118 (0,0))) a;refine Qh ⟨LH.le_trans g b,_,_,rfl,?_,Q6 rfl⟩;refine MatAt.le b.1 ?_;constructor<;>(rw[Qa,Qa];exact Q6 rfl)
theorem Yy{Q:Leaf->LH->Prop}{kk:Value->T}(d:XOK X)(g:Kinds h.get)(l:TreatyR h.get f x)(k i:Int)(K:Nat)(b:K<7)
 (hw:∀ v h' L,h.le h'->L.length=(x.events.filter (allB K k i)).length->(∀ (j:Nat) xs,L[j]?=some xs->∃ e q m c,(x.events.filter (allB K k i))[j]?=some e/\xs=[evV e q m c]/\Sl IntE 1 h'.get q m e.items)->Hands X Tryz.prog v h' L->(kk v).wp X Tryz.prog Q h') :
  (T.call false 161 #[matV f x k i,.int .i64 (K:Int)] kk).wp X Tryz.prog Q h:=by
 refine t_gr (c2083 f x k i K) ?_;rintro _ h₁ a ⟨o,p,rfl,hm,n⟩;obtain⟨L,h1,h2,h3⟩:=hands2095 d (g.le a.1) b hm n (l.le a.1);exact hw _ h₁ L a h1 h2 h3
def Jf(a:Int):List Int->Int
 | []=>a
 | y::l=>Jf (if y<a then y else a) l
theorem least_nil:least []=10000:=rfl
theorem Dy(y:Int)(l:List Int):least (y::l)=if y<least l then y else least l:=rfl
theorem Kx:∀ (l:List Int) (a:Int),a<=10000->Jf a l=(if a<least l then a else least l)
 | [],a,h=>by
  rw[Jf,least_nil];split<;>omega
 | y::l,a,h=>by
  have hc:=G1 l;rw[Jf,Kx l _ (by split<;>omega),Dy];generalize least l=b at hc ⊢;by_cases c:y<a<;>by_cases d:y<b<;>by_cases e:a<b<;>by_cases f:a<y<;>simp[c,d,e,f]<;>omega
theorem Gk(l:List Int):Jf 10000 l=least l:=by
 rw[Kx l _ (Int.le_refl _)];have hc:=G1 l;split<;>omega
theorem fallsL_all(x:TF)(k i fr:Int):fallsL x i fr=((x.events.filter (allB 4 k i)).filter fun e=>decide (e.since<=x.start+x.depend)&&decide (fr<=e.day)).map (·.day):=by
 unfold fallsL;rw[List.filter_filter];congr 1;refine List.filter_congr fun e _=>?_;unfold Tr.early allB landK;have a:Nat.beq 4 4=true:=rfl;rw[a,Bool.not_true,Bool.not_false,Bool.true_or,Bool.true_and];show ((e.kind==4)&&decide (e.since<=x.start+x.depend)&&(e.items.contains i&&decide (fr<=e.day)))=(decide (e.since<=x.start+x.depend)&&decide (fr<=e.day)&&((e.kind==4)&&e.items.contains i));cases (e.kind==4)<;>cases decide (e.since<=x.start+x.depend)<;>cases e.items.contains i<;>cases decide (fr<=e.day)<;>rfl
theorem limitsL_all(x:TF)(k i fr:Int):limitsL x k i fr=((x.events.filter (allB 3 k i)).filter fun e=>decide (fr<=e.day)).map (·.day):=by
 unfold limitsL;rw[List.filter_filter];congr 1;refine List.filter_congr fun e _=>?_;rw[Kv (by decide)];rw[Bool.and_comm];rfl
theorem c2096(y:Kinds h.get)(z:TreatyR h.get f x)(a:IsI (x.start+x.depend))(k i fr:Int):Gr Tryz.prog 193 #[matV f x k i,fr] h fun r _=>r=.int .i64 (falls x i fr):=by
 refine w2096 Qr ?_;refine Yy Qr y z k i 4 (by decide) ?_;intro v h₁ L n g b t;rw[falls,fallsL_all x k i fr];generalize A:x.events.filter (allB 4 k i)=F at g b;refine Dr (LH.le_refl h₁) t (fun j vs h'=>∃ d:Int,vs=[.int .i64 d]/\d<=10000/\least ((F.filter fun e=>decide (e.since<=x.start+x.depend)&&decide (fr<=e.day)).map (·.day))=Jf d (((F.drop j).filter fun e=>decide (e.since<=x.start+x.depend)&&decide (fr<=e.day)).map (·.day)))
  ⟨10000,rfl,Int.le_refl _,(Gk _).symm⟩ ?_ ?_
 ·rintro vs h' hle ⟨d,rfl,_,hc⟩;rw[List.drop_eq_nil_of_le (by omega)]at hc;refine gZ ?_;exact Qh ⟨LH.le_trans n hle,by rw[hc];rfl⟩
 ·rintro j xs vs h' w hle ⟨d,rfl,o,hc⟩ Y l;obtain⟨e,q,m,c,he,rfl,u⟩:=b j xs w;rw[Jy he,List.filter_cons]at hc;unfold evV;refine gZ ?_;rw[Qm a.1 a.2];refine t_if (fun p=>?_) (fun p=>?_)
  ·refine t_if (fun s=>?_) (fun s=>?_)
   ·rw[if_pos (by simp;omega),List.map_cons,Jf]at hc;exact Ju hle (l _ _ hle ⟨_,rfl,by split<;>omega,hc⟩)
   ·rw[if_neg (by simp;omega)]at hc;exact Ju hle (l _ _ hle ⟨_,rfl,o,hc⟩)
  ·rw[if_neg (by simp;omega)]at hc;exact Ju hle (l _ _ hle ⟨_,rfl,o,hc⟩)
theorem c2094(u:Kinds h.get)(w:TreatyR h.get f x)(k i fr:Int):Gr Tryz.prog 188 #[matV f x k i,fr] h fun r _=>r=.int .i64 (limits x k i fr):=by
 refine w2094 Qr ?_;refine Yy Qr u w k i 3 (by decide) ?_;intro v h₁ L g b a o;rw[limits,limitsL_all x k i fr];generalize y:x.events.filter (allB 3 k i)=F at b a;refine Dr (LH.le_refl h₁) o (fun j vs h'=>∃ d:Int,vs=[.int .i64 d]/\d<=10000/\least ((F.filter fun e=>decide (fr<=e.day)).map (·.day))=Jf d (((F.drop j).filter fun e=>decide (fr<=e.day)).map (·.day)))
  ⟨10000,rfl,Int.le_refl _,(Gk _).symm⟩ ?_ ?_
 ·rintro vs h' hle ⟨d,rfl,_,hc⟩;rw[List.drop_eq_nil_of_le (by omega)]at hc;refine gZ ?_;exact Qh ⟨LH.le_trans g hle,by rw[hc];rfl⟩
 ·rintro j xs vs h' t hle ⟨d,rfl,p,hc⟩ Y l;obtain⟨e,q,m,c,he,rfl,s⟩:=a j xs t;rw[Jy he,List.filter_cons]at hc;unfold evV;refine yJ (fun n=>?_) (fun n=>?_)
  ·rw[if_pos (by simp;omega),List.map_cons,Jf]at hc;exact Ju hle (l _ _ hle ⟨_,rfl,by split<;>omega,hc⟩)
  ·rw[if_neg (by simp;omega)]at hc;exact Ju hle (l _ _ hle ⟨_,rfl,p,hc⟩)
end
section
open Go.TM.Tr
attribute [local irreducible] T.wp CV FWK
variable {h:LH}{f:TC}{x:TF}{k i a:Int}
theorem c2097(B:Kinds h.get)(C:TreatyR h.get f x){t u:Addr}{d:Int}(hm:MatAt h.get t f x k i)(D:h.get.cell? u=some (.int .i64 d))(fr:Int) :
  Gr Tryz.prog 194 #[fr,.pointer (some t),.pointer (some u)] h fun r _=>r=.bool (lifted x k i fr d):=by
 refine w2097 Qr ?_;obtain⟨f0,f1,f2,f3,f4,f5,f6,f7,f8⟩:=hm;refine gZ ?_;refine Yy Qr B C k i 2 (by decide) ?_;intro v h₁ L g p n w;have b:lifted x k i fr d=(x.events.filter (allB 2 k i)).any fun l=>decide (fr<=l.day/\l.day<=d):=by
  unfold Tr.lifted;rw[List.any_filter];refine congrArg (fun q=>x.events.any q) (funext fun e=>?_);rw[Kv (by decide)];rfl
 rw[b];generalize G:x.events.filter (allB 2 k i)=F at p n;have s:=Qo g.1 D;refine Dr (LH.le_refl h₁) w (fun j vs h'=>vs=[.bool false]/\(F.any fun l=>decide (fr<=l.day/\l.day<=d))=(F.drop j).any fun l=>decide (fr<=l.day/\l.day<=d)) ⟨rfl,rfl⟩ ?_ ?_
 ·rintro vs h' hle ⟨rfl,hc⟩;rw[List.drop_eq_nil_of_le (by omega)]at hc;refine gZ ?_;exact Qh ⟨LH.le_trans g hle,by rw[hc];rfl⟩
 ·rintro j xs vs h' A hle ⟨rfl,hc⟩ Y y;obtain⟨e,q,m,c,he,rfl,z⟩:=n j xs A;rw[Jy he,List.any_cons]at hc;have E:=Qo hle.1 s;unfold evV;refine gZ ?_;refine t_pu (c2052 _ _ _) ?_;refine yI (fun o=>?_) (fun o=>?_)
  ·refine t_retnE hle ?_;have a:decide (fr<=e.day/\e.day<=d)=true:=by simpa[inB] using o
   rw[a,Bool.true_or]at hc;refine gZ ?_;exact Qh ⟨LH.le_trans g hle,by rw[hc]⟩
  ·have a:decide (fr<=e.day/\e.day<=d)=false:=by simpa[inB] using o
   rw[a,Bool.false_or]at hc;exact Ju hle (y _ _ hle ⟨rfl,hc⟩)
def askCells(f:TC)(x:TF)(k i a:Int):List Value:=[.int .i64 x.items,.int .i64 x.lands,.int .i64 x.start,.int .i64 x.depend,.int .i64 x.refuse,.int .i64 x.turn,.slice f.p f.n f.c,.int .i64 k,.int .i64 i,.int .i64 a,.int .i64 (askEnd x k i a),.bool (fallen x k i a)]
def askV(f:TC)(x:TF)(k i a:Int):Value:=.agg #[.int .i64 x.items,.int .i64 x.lands,.int .i64 x.start,.int .i64 x.depend,.int .i64 x.refuse,.int .i64 x.turn,.slice f.p f.n f.c,.int .i64 k,.int .i64 i,.int .i64 a,.int .i64 (askEnd x k i a),.bool (fallen x k i a)]
def AskE(f:TC)(x:TF)(k i:Int)(h:Cells)(a:Addr)(d:Int):Prop:=∀ (j:Nat) w,(askCells f x k i d)[j]?=some w->h.cell? (a.add j)=some w
def AskEnc(f:TC)(x:TF)(k i:Int)(d:Int)(ws:List Value):Prop:=ws=askCells f x k i d
theorem AskE.grow:Grow (AskE f x k i):=fun _ _ _ _ b h j w a=>b _ _ (h j w a)
theorem AskEnc.len:∀ d ws,AskEnc f x k i d ws->ws.length=12:=by rintro d _ rfl;rfl
theorem AskEnc.e{h':Cells}:∀ a d ws,AskEnc f x k i d ws->(∀ (j:Nat) w,ws[j]?=some w->h'.cell? (a.add j)=some w)->AskE f x k i h' a d:=by
 rintro a d _ rfl hc;exact hc
theorem refused_any(x:TF)(k i a d:Int):refused x k i a d=(x.events.filter (allB 1 k i)).any fun r=>decide (a<=r.day/\r.day<=a+x.refuse/\r.day<=d)&&!lifted x k i r.day d:=by
 unfold Tr.refused;rw[List.any_filter];refine congrArg (fun q=>x.events.any q) (funext fun e=>?_);rw[Kv (by decide)];rfl
theorem in_min(n a b d:Int):inB n a (if b<d then b else d)=decide (a<=n/\n<=b/\n<=d):=by
 unfold inB;rw[Bool.eq_iff_iff];simp only[Bool.and_eq_true,decide_eq_true_eq];split<;>omega
theorem c2085(O:Kinds h.get)(P:TreatyR h.get f x)(k i:Int)(N:IsI (a+x.refuse))(e:Int)(s:Bool)(d:Int) :
  Gr Tryz.prog 165 #[.agg #[.int .i64 x.items,.int .i64 x.lands,.int .i64 x.start,.int .i64 x.depend,.int .i64 x.refuse,.int .i64 x.turn,.slice f.p f.n f.c,k,i,a,e,.bool s],d] h fun r _=>r=.bool (refused x k i a d):=by
 refine w2085 Qr ?_;refine Kg fun r hr=>?_;refine Kg fun r1 H=>?_;have Q:h.le _:=Q1 (x:=(true,.cells #[.int .i64 x.items,.int .i64 x.lands,.int .i64 x.start,.int .i64 x.depend,.int .i64 x.refuse,.int .i64 x.turn,.slice f.p f.n f.c,.int .i64 k,.int .i64 i,.int .i64 a,.int .i64 e,.bool s] 201 (0,0))) hr;have z:=Q1 (x:=(true,.cells #[.int .i64 d] 3 (0,0))) H;have hm:MatAt (h.get.upd r (true,.cells #[.int .i64 x.items,.int .i64 x.lands,.int .i64 x.start,.int .i64 x.depend,.int .i64 x.refuse,.int .i64 x.turn,.slice f.p f.n f.c,.int .i64 k,.int .i64 i,.int .i64 a,.int .i64 e,.bool s] 201 (0,0))) ⟨r,0,none⟩ f x k i:=by
  constructor<;>(rw[Qa,Qa];exact Q6 rfl)
 have t:Cells.cell? (h.get.upd r (true,.cells #[.int .i64 x.items,.int .i64 x.lands,.int .i64 x.start,.int .i64 x.depend,.int .i64 x.refuse,.int .i64 x.turn,.slice f.p f.n f.c,.int .i64 k,.int .i64 i,.int .i64 a,.int .i64 e,.bool s] 201 (0,0))) (Addr.add ⟨r,0,none⟩ 9)=some (.int .i64 a):=by rw[Qa];exact Q6 rfl
 have I:=Q6 (h:=h.get.upd r (true,.cells #[.int .i64 x.items,.int .i64 x.lands,.int .i64 x.start,.int .i64 x.depend,.int .i64 x.refuse,.int .i64 x.turn,.slice f.p f.n f.c,.int .i64 k,.int .i64 i,.int .i64 a,.int .i64 e,.bool s] 201 (0,0))) (r:=r1) (i:=0) (m:=true) (cs:=#[.int .i64 d]) (el:=3) (f:=(0,0)) (v:=.int .i64 d) rfl;have hm:=hm.le z.1;have t:=Qo z.1 t;have b:=LH.le_trans Q z;generalize y:({ h with get:=(h.get.upd r (true,.cells #[.int .i64 x.items,.int .i64 x.lands,.int .i64 x.start,.int .i64 x.depend,.int .i64 x.refuse,.int .i64 x.turn,.slice f.p f.n f.c,.int .i64 k,.int .i64 i,.int .i64 a,.int .i64 e,.bool s] 201 (0,0))).upd r1 (true,.cells #[.int .i64 d] 3 (0,0)) }:LH)=h2 at b ⊢;have hm:MatAt h2.get ⟨r,0,none⟩ f x k i:=by rw[<- y];exact hm
 have t:h2.get.cell? (Addr.add ⟨r,0,none⟩ 9)=some (.int .i64 a):=by rw[<- y];exact t
 have I:h2.get.cell? ⟨r1,0,none⟩=some (.int .i64 d):=by rw[<- y];exact I
 clear y Q z;have E:=hm;obtain⟨f0,f1,f2,f3,f4,f5,f6,f7,f8⟩:=hm;refine gZ ?_;refine Yy Qr (O.le b.1) (P.le b.1) k i 1 (by decide) ?_;intro v h₁ L g D u S;rw[refused_any];generalize W:x.events.filter (allB 1 k i)=F at D u;have G:=E.le g.1;have C:=Qo g.1 t;have J:=Qo g.1 I;refine Dr (LH.le_refl h₁) S (fun j vs h'=>vs=[.bool false]/\(F.any fun r=>decide (a<=r.day/\r.day<=a+x.refuse/\r.day<=d)&&!lifted x k i r.day d)=(F.drop j).any fun r=>decide (a<=r.day/\r.day<=a+x.refuse/\r.day<=d)&&!lifted x k i r.day d) ⟨rfl,rfl⟩ ?_ ?_
 ·rintro vs h' hle ⟨rfl,hc⟩;rw[List.drop_eq_nil_of_le (by omega)]at hc;refine gZ ?_;exact Qh ⟨LH.le_trans b (LH.le_trans g hle),by rw[hc];rfl⟩
 ·rintro j xs vs h' V hle ⟨rfl,hc⟩ Y M;obtain⟨ev,q,m,c,he,rfl,U⟩:=u j xs V;rw[Jy he,List.any_cons]at hc;have w:=G.le hle.1;have R:=Qo hle.1 C;have K:=Qo hle.1 J;have f44:h'.get.cell? (Addr.add (Addr.add (Addr.add ⟨r,0,none⟩ 0) 0) 4)=some (.int .i64 x.refuse):=by
   have:=w.f4;rwa[show Addr.add (Addr.add (⟨r,0,none⟩ : Addr) 0) 0=Addr.add ⟨r,0,none⟩ 0 by rw[G6]]
  unfold evV;refine gZ ?_;rw[Qm N.1 N.2];refine t_pu (c2052 _ _ _) ?_;rw[in_min];refine yI (fun A=>?_) (fun A=>?_)
  ·rw[A,Bool.true_and]at hc;have l:=LH.le_trans g hle;refine J9 (H2 Qr (by rfl) (c2097 ((O.le b.1).le l.1) ((P.le b.1).le l.1) w K ev.day)) ?_;rintro _ h5 ⟨o,rfl⟩;refine yI (fun B=>?_) (fun B=>?_)
   ·refine t_retnE (LH.le_trans hle o) ?_;refine gZ ?_;rw[B,Bool.true_or]at hc;exact Qh ⟨LH.le_trans b (LH.le_trans l o),by rw[hc]⟩
   ·rw[B,Bool.false_or]at hc;exact Ju (LH.le_trans hle o) (M _ _ (LH.le_trans hle o) ⟨rfl,hc⟩)
  ·rw[A,Bool.false_and,Bool.false_or]at hc;exact Ju hle (M _ _ hle ⟨rfl,hc⟩)
theorem c2137(j:Kinds h.get)(l:TreatyR h.get f x)(k i:Int)(g:IsI (a+x.refuse))(he:IsI (askEnd x k i a-1))(d:Int) :
  Gr Tryz.prog 272 #[askV f x k i a,d] h fun r _=>r=.tuple #[a,.bool (decide (a<=d/\d<askEnd x k i a)&&!refused x k i a d)]:=by
 refine w2137 Qr ?_;rw[Qm he.1 he.2];have c:inB d a (askEnd x k i a-1)=decide (a<=d/\d<askEnd x k i a):=by
  unfold inB;rw[Bool.eq_iff_iff];simp only[Bool.and_eq_true,decide_eq_true_eq];omega
 refine t_pu (c2052 _ _ _) ?_;rw[c];refine yI (fun b=>?_) (fun b=>?_)
 ·refine t_gr (c2085 j l k i g _ _ d) ?_;rintro _ h1 e rfl;refine gZ ?_;exact Qh ⟨e,by rw[b,Bool.true_and]⟩
 ·refine gZ ?_;refine Zr ?_ ?_
  ·refine gZ ?_;exact Qh ⟨LH.le_refl _,by rw[b,Bool.false_and]⟩
  ·refine gZ ?_;exact Qh ⟨LH.le_refl _,by rw[b,Bool.false_and]⟩
theorem askDays_all(x:TF)(k i:Int):askDays x k i=((x.events.filter (allB 0 k i)).filter fun e=>decide (e.day<falls x i 0)).map (·.day):=by
 unfold askDays;rw[List.filter_filter];congr 1;refine List.filter_congr fun e _=>?_;rw[Kv (by decide),Bool.and_comm];rfl
theorem c2084(D:Kinds h.get)(E:TreatyR h.get f x)(l:IsI (x.start+x.depend))(hlen:x.events.length<=1000)(k i:Int) :
  Gr Tryz.prog 164 #[matV f x k i] h fun r h'=>∃ p n c,r=.slice p n c/\Sl (AskE f x k i) 12 h'.get p n (askDays x k i):=by
 refine w2084 Qr ?_;refine Yy Qr D E k i 0 (by decide) ?_;intro v h₁ L A u y J;rw[askDays_all];have G:(x.events.filter (allB 0 k i)).length<=1000:=Nat.le_trans (List.length_filter_le _ _) hlen;generalize R:x.events.filter (allB 0 k i)=F at u y G;refine Dr (LH.le_refl h₁) J (fun j vs h'=>∃ (p:Option Addr) (n c:Nat),vs=[.slice p n c]/\Growing (AskEnc f x k i) 201 12 h₁.get h'.get p n c (((F.take j).filter fun e=>decide (e.day<falls x i 0)).map (·.day)))
  ⟨none,0,0,rfl,Growing.nil⟩ ?_ ?_
 ·rintro vs h' hle ⟨p,n,c,rfl,g⟩;rw[u,List.take_of_length_le (Nat.le_refl _)]at g;refine gZ ?_;refine Qh ⟨LH.le_trans A hle,p,n,c,rfl,g.sl AskEnc.len (by omega) AskEnc.e ?_⟩;rw[List.length_map];have:=List.length_filter_le (fun e:Ev=>decide (e.day<falls x i 0)) F;omega
 ·rintro j xs vs h' M hle ⟨p,n,c,rfl,g⟩ Y H;obtain⟨e,q,m,O,he,rfl,K⟩:=y j xs M;have b:F.take (j+1)=F.take j++[e]:=by rw[List.take_add_one,he];rfl
  have s:=LH.le_trans A hle;unfold evV;refine gZ ?_;refine t_gr (c2096 (D.le s.1) (E.le s.1) l k i 0) ?_;rintro _ h3 a rfl;refine yJ (fun I=>?_) (fun I=>?_)
  ·refine Ju (LH.le_trans hle a) (H _ _ (LH.le_trans hle a) ⟨p,n,c,rfl,?_⟩);rw[b,List.filter_append,List.filter_cons,if_neg (by simp;omega)];simpa using g.le a.1
  have d:=LH.le_trans s a;refine t_gr (c2096 (D.le d.1) (E.le d.1) l k i e.day) ?_;rintro _ P t rfl;refine gZ ?_;have o:=LH.le_trans d t;refine t_gr (c2094 (D.le o.1) (E.le o.1) k i e.day) ?_;rintro _ h5 B rfl;refine gZ ?_;have z:=LH.le_trans hle (LH.le_trans a (LH.le_trans t B));have S:n<=1000:=by
   rw[g.count AskEnc.len (by omega),List.length_map];have h1:=List.length_filter_le (fun e:Ev=>decide (e.day<falls x i 0)) (F.take j);have h2:(F.take j).length<=1000:=by rw[List.length_take];omega
   omega
  refine G9 e.day (askCells f x k i e.day) rfl rfl undAsks infAsk rfl (by omega) (by decide) (by kernel_rfl) rfl ?_ (by omega) (g.le (LH.le_trans a (LH.le_trans t B)).1) z rfl ?_
  ·intro w hw;simp only[askCells,List.mem_cons,List.not_mem_nil,or_false]at hw;rcases hw with rfl|rfl|rfl|rfl|rfl|rfl|rfl|rfl|rfl|rfl|rfl|rfl<;>rfl
  ·intro N c' Q C _ g6;refine gZ ?_;refine Ju C (H _ _ C ⟨N,_,c',rfl,?_⟩);rw[b,List.filter_append,List.filter_cons,if_pos (by simp;omega),List.map_append];exact g6
end
section
open Go.TM.Tr
attribute [local irreducible] T.wp CV FWK
structure Right(x:TF):Prop where
 ok:Ok x
 start:0<=x.start/\x.start<=9999
 depend:0<=x.depend/\x.depend<=9999
 refuse:0<=x.refuse/\x.refuse<=9999
 turn:0<=x.turn/\x.turn<=9999
 many:x.events.length<=10
variable {x:TF}{k i a d:Int}{l:List Int}
theorem Right.of(h:checkT x=0):Right x:=by
 have:=Zq h;exact⟨check_ok h,this.2.2.1,this.2.2.2.1,this.2.2.2.2.1,this.2.2.2.2.2.1,this.2.2.2.2.2.2⟩
theorem Right.sum(r:Right x):IsI (x.start+x.depend):=by have:=r.start;have:=r.depend;unfold IsI;omega
theorem Right.askDay(r:Right x)(h:a∈askDays x k i):0<=a/\a<=9999:=r.ok.has (Yn.1 h).1
theorem falls_low(v:Ok x)(i f:Int):0<=falls x i f/\falls x i f<=10000:=by
 refine⟨?_,G1 _⟩;rcases Z2 (l:=fallsL x i f) with h|h
 ·unfold falls;omega
 ·obtain⟨e,h1,_,_,a⟩:=(Wq.1 h).1;have:=v e h1;unfold falls;omega
theorem limits_low(v:Ok x)(k i f:Int):0<=limits x k i f/\limits x k i f<=10000:=by
 refine⟨?_,G1 _⟩;rcases Z2 (l:=limitsL x k i f) with h|h
 ·unfold limits;omega
 ·have:=v.has (Hf.1 h).1;unfold limits;omega
theorem askEnd_low(v:Ok x)(k i a:Int):0<=askEnd x k i a/\askEnd x k i a<=10000:=by
 have h1:=falls_low v i a;have h2:=limits_low v k i a;unfold askEnd;split<;>omega
theorem H6(x:TF)(k i:Int):(askDays x k i).length<=x.events.length:=by
 unfold askDays;rw[List.length_map];exact List.length_filter_le _ _
def bestI:Option Int->List Int->Option Int
 | o,[]=>o
 | none,a::l=>bestI (some a) l
 | some b,a::l=>bestI (some (if a<b then a else b)) l
theorem bestI_some:∀ (l:List Int) (b:Int),bestI (some b) l=some (Jf b l)
 | [],b=>rfl
 | a::l,b=>by rw[bestI,Jf,bestI_some l]
theorem bestI_least(h:∀ v∈l,v<10000):leastOr l=match bestI none l with|none=>-1|some n=>n:=by
 cases l with
 | nil=>rfl
 | cons a l =>
  rw[bestI,bestI_some];have b:=h a (by simp);simp only;rw[Kx l a (by omega),leastOr,if_neg (by simp),Dy]
def zeroAsk:List Value:=[.int .i64 0,.int .i64 0,.int .i64 0,.int .i64 0,.int .i64 0,.int .i64 0,.slice none 0 0,.int .i64 0,.int .i64 0,.int .i64 0,.int .i64 0,.bool false]
def Kl(f:TC)(x:TF)(k i:Int):Option Int->List Value
 | none=>zeroAsk
 | some a=>askCells f x k i a
theorem goodBy_step:(a::l).filter (goodBy x k i d)=if goodBy x k i d a=true then a::l.filter (goodBy x k i d) else l.filter (goodBy x k i d):=List.filter_cons
def turnO(x:TF)(k i d:Int):Option Int:=bestI none (turnedL x k i d)
theorem turnO_turned(v:Ok x)(k i d:Int):turned x k i d=match turnO x k i d with|none=>-1|some n=>n :=
 bestI_least fun n a=>(v.turnedL n a).2
theorem Do(v:Ok x){n:Int}(h:turnO x k i d=some n):0<=n/\n=turned x k i d:=by
 have h1:=turnO_turned v k i d;rw[h]at h1;simp only at h1;refine⟨?_,h1.symm⟩;rcases Hr v k i d with⟨h2,h3⟩|⟨h2,_⟩
 ·unfold turnO at h;rw[h3]at h;cases h
 ·have:=(v.turnedL _ h2).1;omega
theorem turnO_none(v:Ok x):turnO x k i d=none↔¬ 0<=turned x k i d:=by
 have h1:=turnO_turned v k i d;cases h:turnO x k i d with
 | none =>
  rw[h]at h1;simp only at h1;constructor
  ·intro _;omega
  ·intro _;rfl
 | some n =>
  have:=Do v h;constructor
  ·intro e;cases e
  ·intro h2;omega
theorem c2064{h:LH}(I:Kinds h.get){f:TC}(K:TreatyR h.get f x)(rt:Right x)(k i d:Int) :
    Gr Tryz.prog 115 #[matV f x k i,d] h fun r _=>r=.tuple #[.agg (Kl f x k i (turnO x k i d)).toArray,.bool (turnO x k i d).isSome]:=by
  refine w2064 Qr ?_;refine t_gr (c2084 I K rt.sum (Nat.le_trans rt.many (by omega)) k i) ?_;rintro _ h₁ s ⟨p,n,c,rfl,C⟩;refine gZ ?_;have hn:=C.1;have hb:=C.2.1;have hlen:=H6 x k i;have B:=rt.many;refine Je (fun L vs h'=>h₁.le h'/\∃ (j:Nat) (o:Option Int),vs=.bool o.isSome::.int .i64 j::Kl f x k i o/\j<=n/\L=n-j/\turnO x k i d=bestI o (((askDays x k i).drop j).filter (goodBy x k i d)))
    ⟨LH.le_refl _,0,none,rfl,Nat.zero_le _,rfl,rfl⟩ ?_
  rintro Y L vs h2 P ⟨e,j,o,rfl,hj,rfl,hc⟩;have next:∀ h' (t:Option Int),h₁.le h'->j+1<=n->turnO x k i d=bestI t (((askDays x k i).drop (j+1)).filter (goodBy x k i d))->Y (.bool t.isSome::.int .i64 (wrap .i64 ((j:Int)+1))::Kl f x k i t) h':=by
    intro h' t g S z;refine P (n-(j+1)) _ _ (by omega) ⟨g,j+1,t,?_,by omega,rfl,z⟩;rw[Qm (by omega) (by omega)];rfl
  rcases o with _|q
  all_goals
    simp only[Option.isSome,Kl,zeroAsk,askCells]at next ⊢
    refine yJ (fun M=>?_) (fun M=>?_)
    · obtain⟨a,U,F,Q,he⟩:=(C.le AskE.grow e.1).at (i:=j) (by omega)
      have V:=he 0 _ rfl;have W:=he 1 _ rfl;have X:=he 2 _ rfl;have Z:=he 3 _ rfl;have g4:=he 4 _ rfl;have g5:=he 5 _ rfl;have g6:=he 6 _ rfl;have g7:=he 7 _ rfl;have g8:=he 8 _ rfl;have g9:=he 9 _ rfl;have N:=he 10 _ rfl;have O:=he 11 _ rfl;have G:=rt.askDay (List.mem_of_getElem? F);have H:=askEnd_low rt.ok k i a;have D:=rt.turn;have J:=rt.refuse;have m:=LH.le_trans s e;rw[Jy F,goodBy_step]at hc;have l:goodBy x k i d a=(fallen x k i a&&(decide (askEnd x k i a<=d/\d<=askEnd x k i a+x.turn)&&!refused x k i a (askEnd x k i a-1))):=rfl;have bad:goodBy x k i d a=false->∀ h',h₁.le h'->Y _ h':=fun hb h' g=>next h' _ g (by omega) (by rw[if_neg (by rw[hb];simp)]at hc;exact hc)
      refine yI (fun u=>?_) (fun u=>?_)
      · rw[Qm (by omega) (by omega)]
        refine t_pu (c2052 _ _ _) ?_;have A:inB d (askEnd x k i a) (askEnd x k i a+x.turn)=decide (askEnd x k i a<=d/\d<=askEnd x k i a+x.turn):=by
          unfold inB;rw[Bool.eq_iff_iff];simp only[Bool.and_eq_true,decide_eq_true_eq]
        rw[A];refine yI (fun v=>?_) (fun v=>?_)
        · rw[Qm (by omega) (by omega)]
          refine t_gr (c2085 (I.le m.1) (K.le m.1) k i (a:=a) (by unfold IsI;omega) _ _ _) ?_;rintro _ h3 E rfl;refine gZ ?_;have b:=LH.le_trans e E;refine Qt (fun w=>?_) (fun w=>?_)
          · have R:goodBy x k i d a=true:=by rw[l,u,v,w];rfl
            rw[if_pos R]at hc
            first
              | (refine yT ?_
                 exact Qj (next h3 (some a) b (by omega) hc))
              | (refine yF ?_
                 refine t_if (fun y=>?_) (fun y=>?_)
                 · exact Qj (next h3 (some a) b (by omega) (by rw[hc,bestI,if_pos y]))
                 · exact Qj (next h3 (some q) b (by omega) (by rw[hc,bestI,if_neg y])))
          · exact Qj (bad (by rw[l,w];simp) h3 b)
        · exact Qj (bad (by rw[l,v];simp) h2 e)
      · exact Qj (bad (by rw[l,u];simp) h2 e)
    · refine gZ ?_
      rw[List.drop_eq_nil_of_le (by omega)]at hc;refine Qh ⟨LH.le_trans s e,?_⟩;rw[hc];rfl
end
section
open Go.TM.Tr
variable {v:Value}{d k i:Int}{H:Cells}{X:XP}{h:LH}{f:TC}{x:TF}{l:List Ev}{p:Option Addr}
theorem via_ask_eq{A : Next -> Cells -> Prop}{E : Halt -> Cells -> Prop} : Qe Tryz.prog (do let d <- Deferred.ofValue (.func (.func 272) #[] #[]) #[v, .int .i64 d]; invoke d.target d.args) A E H = Qe Tryz.prog (do let d <- Deferred.ofValue (.func (.method "touchmark/treaty.on") #[.iface 201 v] #[]) #[.int .i64 d]; invoke d.target d.args) A E H := by
 kernel_rfl
theorem via_ask{Q : Value -> LH -> Prop}(c : CV X Tryz.prog (.func (.func 272) #[] #[]) #[v, .int .i64 d] h Q) : CV X Tryz.prog (.func (.method "touchmark/treaty.on") #[.iface 201 v] #[]) #[.int .i64 d] h Q := by
 unfold CV at c ⊢;intro main R hR fr cs hs hk;exact via_ask_eq.mp (c main R hR fr cs hs hk)
theorem via_turn_eq{A : Next -> Cells -> Prop}{E : Halt -> Cells -> Prop} : Qe Tryz.prog (do let d <- Deferred.ofValue (.func (.func 287) #[] #[]) #[v, .int .i64 d]; invoke d.target d.args) A E H = Qe Tryz.prog (do let d <- Deferred.ofValue (.func (.method "touchmark/treaty.on") #[.iface 286 v] #[]) #[.int .i64 d]; invoke d.target d.args) A E H := by
 kernel_rfl
theorem via_turn{Q : Value -> LH -> Prop}(c : CV X Tryz.prog (.func (.func 287) #[] #[]) #[v, .int .i64 d] h Q) : CV X Tryz.prog (.func (.method "touchmark/treaty.on") #[.iface 286 v] #[]) #[.int .i64 d] h Q := by
 unfold CV at c ⊢;intro main R hR fr cs hs hk;exact via_turn_eq.mp (c main R hR fr cs hs hk)
attribute [local irreducible] T.wp CV FWK
inductive Title where
 | ask (a:Int)
 | turn (a b:Int)
def turnV(f:TC)(x:TF)(k i a b:Int):Value:=.agg #[.int .i64 x.items,.int .i64 x.lands,.int .i64 x.start,.int .i64 x.depend,.int .i64 x.refuse,.int .i64 x.turn,.slice f.p f.n f.c,.int .i64 k,.int .i64 i,.int .i64 a,.int .i64 (askEnd x k i a),.bool (fallen x k i a),.int .i64 b,.int .i64 (limits x k i b)]
def titleV(f:TC)(x:TF)(k i:Int):Title->Value
 | .ask a=>.iface 201 (askV f x k i a)
 | .turn a b=>.iface 286 (turnV f x k i a b)
def Zz:Title->Int
 | .ask a=>a
 | .turn a _=>a
def titleOn(x:TF)(k i d:Int):Title->Bool
 | .ask a=>decide (a<=d/\d<askEnd x k i a)&&!refused x k i a d
 | .turn _ b=>decide (b<=d/\d<limits x k i b)
def turnsL(x:TF)(k i:Int)(l:List Ev):List Title:=(l.filter fun e=>decide (0<=turned x k i e.day)).map fun e=>.turn (turned x k i e.day) e.day
def titlesL(x:TF)(k i:Int):List Title:=(askDays x k i).map .ask++turnsL x k i (x.events.filter (allB 5 k i))
theorem titles_held(x:TF)(k i d:Int):((titlesL x k i).filter (titleOn x k i d)).map Zz=held x k i d:=by
 unfold titlesL turnsL held askHeld turnHeld;rw[List.filter_append,List.map_append];congr 1
 ·rw[List.filter_map,List.map_map];have:Zz∘Title.ask=id:=rfl;rw[this,List.map_id];rfl
 ·rw[List.filter_map,List.map_map,List.filter_filter,List.filter_filter];congr 1;refine List.filter_congr fun e _=>?_;rw[Kv (by decide)];show (decide (e.day<=d/\d<limits x k i e.day)&&decide (0<=turned x k i e.day)&&about e 5 k i)=_;cases about e 5 k i<;>cases decide (0<=turned x k i e.day)<;>cases decide (e.day<=d/\d<limits x k i e.day)<;>rfl
def TitleE(f:TC)(x:TF)(k i:Int)(h:Cells)(a:Addr)(t:Title):Prop:=h.cell? (a.add 0)=some (titleV f x k i t)
def TitleEnc(f:TC)(x:TF)(k i:Int)(t:Title)(ws:List Value):Prop:=ws=[titleV f x k i t]
theorem TitleE.grow:Grow (TitleE f x k i):=fun _ _ _ _ a h=>a _ _ h
theorem TitleEnc.len:∀ d ws,TitleEnc f x k i d ws->ws.length=1:=by rintro d _ rfl;rfl
theorem TitleEnc.e{h':Cells}:∀ a d ws,TitleEnc f x k i d ws->(∀ (j:Nat) w,ws[j]?=some w->h'.cell? (a.add j)=some w)->TitleE f x k i h' a d:=by
 rintro a d _ rfl hc;exact hc 0 _ rfl
theorem titleV_one(f:TC)(x:TF)(k i:Int)(t:Title):isOne (titleV f x k i t)=true:=by cases t<;>rfl
theorem c2138(f:TC)(x:TF)(v:Ok x)(k i a b d:Int):Pu Tryz.prog 287 #[turnV f x k i a b,d] h (.tuple #[a,.bool (decide (b<=d/\d<limits x k i b))]):=by
 refine w2138 Qr ?_;have e:=limits_low v k i b;rw[Qm (by omega) (by omega)];have c:inB d b (limits x k i b-1)=decide (b<=d/\d<limits x k i b):=by
  unfold inB;rw[Bool.eq_iff_iff];simp only[Bool.and_eq_true,decide_eq_true_eq];omega
 refine t_pu (c2052 _ _ _) ?_;rw[c];refine gZ ?_;exact Qh ⟨rfl,rfl⟩
theorem titles_ask{t:Title}(h:t∈titlesL x k i):(∃ a,t=.ask a/\a∈askDays x k i)\/∃ e∈x.events,t=.turn (turned x k i e.day) e.day/\0<=turned x k i e.day:=by
 unfold titlesL turnsL at h;rcases List.mem_append.1 h with h|h
 ·obtain⟨a,b,rfl⟩:=List.mem_map.1 h;exact .inl ⟨a,rfl,b⟩
 ·obtain⟨e,he,rfl⟩:=List.mem_map.1 h;have h1:=List.mem_filter.1 he;exact .inr ⟨e,(List.mem_filter.1 h1.1).1,rfl,by simpa using h1.2⟩
theorem titles_len(x:TF)(k i:Int):(titlesL x k i).length<=2*x.events.length:=by
 unfold titlesL turnsL;rw[List.length_append,List.length_map,List.length_map];have h1:=H6 x k i;have h2:=List.length_filter_le (fun e:Ev=>decide (0<=turned x k i e.day)) (x.events.filter (allB 5 k i));have h3:=List.length_filter_le (allB 5 k i) x.events;omega
theorem cv_title(hk:Kinds h.get)(hx:TreatyR h.get f x)(rt:Right x)(k i d:Int){t:Title}(ht:t∈titlesL x k i) :
  CV X0 Tryz.prog (.func (.method "touchmark/treaty.on") #[titleV f x k i t] #[]) #[.int .i64 d] h fun r h' => h.le h' /\ r = .tuple #[.int .i64 (Zz t), .bool (titleOn x k i d t)] := by
 rcases titles_ask ht with⟨a,rfl,ha⟩|⟨e,_,rfl,_⟩
 ·refine via_ask (H2 Qr (hargs:=#[askV f x k i a,.int .i64 d]) (by rfl) ?_);have h1:=rt.askDay ha;have h2:=rt.refuse;have h3:=askEnd_low rt.ok k i a;exact c2137 hk hx k i (by unfold IsI;omega) (by unfold IsI;omega) d
 ·refine via_turn (H2 Qr (hargs:=#[turnV f x k i (turned x k i e.day) e.day,.int .i64 d]) (by rfl) ?_);exact pu_gr (c2138 f x rt.ok k i _ _ d)
theorem turns_step{e:Ev}(h:0<=turned x k i e.day):turnsL x k i (l++[e])=turnsL x k i l++[.turn (turned x k i e.day) e.day]:=by
 unfold turnsL;rw[List.filter_append,List.map_append,List.filter_cons,if_pos (by simpa using h)];rfl
theorem turns_skip{e:Ev}(h:¬ 0<=turned x k i e.day):turnsL x k i (l++[e])=turnsL x k i l:=by
 unfold turnsL;rw[List.filter_append,List.map_append,List.filter_cons,if_neg (by simpa using h)];simp
def butOf(h:Cells):Option Addr->Cells
 | none=>h
 | some a=>fun r=>if r=a.block then none else h r
def onlyOf(h:Cells):Option Addr->Cells
 | none=>fun _=>none
 | some a=>fun r=>if r=a.block then h r else none
theorem but_only(h:Cells)(p:Option Addr):h=(butOf h p).add (onlyOf h p)/\Disj (butOf h p) (onlyOf h p):=by
 cases p with
 | none=>exact⟨by funext r;unfold butOf onlyOf Cells.add;simp only;cases h r<;>rfl,fun r=>.inr rfl⟩
 | some a =>
  refine⟨?_,fun r=>?_⟩
  ·funext r;unfold butOf onlyOf Cells.add;by_cases e:r=a.block
   ·simp[e]
   ·simp[e];cases h r<;>rfl
  ·unfold butOf onlyOf;by_cases e:r=a.block
   ·simp[e]
   ·simp[e]
theorem but_le{h₁ h:Cells}(c:h₁.le h)(d:NewIn h₁ p):h₁.le (butOf h p):=by
 intro r x hr;cases p with
 | none=>exact c r x hr
 | some a =>
  unfold butOf;have b:r≠a.block:=by
   rintro rfl;have:=d a rfl;rw[this]at hr;cases hr
  simp[b];exact c r x hr
theorem Growing.over{α:Type}{Enc:α->List Value->Prop}{el:TypeId}{k:Nat}{h₀ h hb:Cells}{n c:Nat}{l:List α}(g:Growing Enc el k h₀ h p n c l)(d:Disj hb (onlyOf h p)):Growing Enc el k hb (hb.add (onlyOf h p)) p n c l:=by
 obtain⟨vs,⟨h1,h2⟩,h3⟩:=g.row;rcases h2 with h2|⟨r,cs,rfl,hr,f⟩
 ·exact⟨⟨vs,⟨h1,.inl h2⟩,h3⟩,fun a b=>by rw[h2.1]at b;cases b⟩
 ·have e:onlyOf h (some ⟨r,0,none⟩) r=some (true,.cells cs el (0,0)):=by unfold onlyOf;simp[hr]
  refine⟨⟨vs,⟨h1,.inr ⟨r,cs,rfl,Q3 d e,f⟩⟩,h3⟩,fun a b=>?_⟩;cases b;rcases d r with h5|h5
  ·exact h5
  ·rw[e]at h5;cases h5
theorem t_allF{Q:Leaf->LH->Prop}{hb:LH}{kq:Cells}{kk:Value->T}(g:XOK X)(o:h=hb.add kq)(d:Disj hb.get kq)(p:Kinds hb.get)(r:TreatyR hb.get f x)(k i:Int)(K:Nat)(n:K<7)
 (hw:∀ v a L,hb.le a->Disj a.get kq->L.length=(x.events.filter (allB K k i)).length->(∀ (j:Nat) xs,L[j]?=some xs->∃ e q m c,(x.events.filter (allB K k i))[j]?=some e/\xs=[evV e q m c]/\Sl IntE 1 a.get q m e.items)->Hands X Tryz.prog v a L->(kk v).wp X Tryz.prog Q (a.add kq)) :
  (T.call false 161 #[matV f x k i,.int .i64 (K:Int)] kk).wp X Tryz.prog Q h:=by
 subst o;refine Jp (FW.frame g (Yx (c2083 (h:=hb) f x k i K)) d) ?_;rintro _ _ ⟨h',l,rfl,b,t,u,rfl,hm,s⟩;obtain⟨L,h1,h2,h3⟩:=hands2095 g (p.le b.1) n hm s (r.le b.1);exact hw _ h' L b l h1 h2 h3
theorem c2082(M:Kinds h.get)(N:TreatyR h.get f x)(rt:Right x)(k i:Int) :
  Gr Tryz.prog 160 #[matV f x k i] h fun r h'=>∃ p n c,r=.slice p n c/\Sl (TitleE f x k i) 1 h'.get p n (titlesL x k i):=by
 refine w2082 Qr ?_;refine t_gr (c2084 M N rt.sum (Nat.le_trans rt.many (by omega)) k i) ?_;rintro _ h₁ A ⟨p,n,c,rfl,X⟩;refine gZ ?_;have hn:=X.1;have hb:=X.2.1;have hlen:=H6 x k i;have U:=rt.many;have Z:=titles_len x k i;refine Je (fun mm vs h'=>h₁.le h'/\∃ (j:Nat) (q:Option Addr) (m s:Nat),vs=[.int .i64 j,.slice q m s]/\j<=n/\mm=n-j/\Growing (TitleEnc f x k i) 256 1 h₁.get h'.get q m s (((askDays x k i).take j).map .ask))
  ⟨LH.le_refl _,0,none,0,0,rfl,Nat.zero_le _,rfl,Growing.nil⟩ ?_
 rintro Y mm vs h2 hY ⟨l,j,q,m,s,rfl,hj,rfl,g⟩;refine yJ (fun e1=>?_) (fun e1=>?_)
 ·obtain⟨a,ad,ha,k0,he⟩:=(X.le AskE.grow l.1).at (i:=j) (by omega);have g0:=he 0 _ rfl;have g1:=he 1 _ rfl;have g2:=he 2 _ rfl;have g3:=he 3 _ rfl;have g4:=he 4 _ rfl;have g5:=he 5 _ rfl;have g6:=he 6 _ rfl;have g7:=he 7 _ rfl;have g8:=he 8 _ rfl;have g9:=he 9 _ rfl;have e0:=he 10 _ rfl;have j0:=he 11 _ rfl;have hm:m<=100:=by
   rw[g.count TitleEnc.len (by omega),List.length_map,List.length_take];omega
  refine gZ ?_;refine G9 (Title.ask a) [titleV f x k i (.ask a)] rfl rfl Uo infTitle rfl (by omega) (by decide) (by kernel_rfl) rfl (by simp[titleV_one]) (by omega) g l rfl ?_;intro p' c' h3 B _ O;refine gZ ?_;refine Qj (hY (n-(j+1)) _ _ (by omega) ⟨B,j+1,p',m+1,c',?_,by omega,rfl,?_⟩)
  ·rw[Qm (by omega) (by omega)];rfl
  ·rw[List.take_add_one,ha,List.map_append];exact O
 ·refine gZ ?_;have S:j=(askDays x k i).length:=by omega
  subst S;rw[List.take_of_length_le (Nat.le_refl _)]at g;have H:=but_only h2.get q;have b:h₁.get.le (butOf h2.get q):=but_le l.1 g.new;refine t_allF (hb:={ h2 with get:=butOf h2.get q }) (kq:=onlyOf h2.get q) Qr (by unfold LH.add;simp only;rw[<- H.1]) H.2 ((M.le A.1).le b) ((N.le A.1).le b) k i 5 (by decide) ?_;intro v h3 L d d3 C D hH;have B:h₁.le h3:=⟨Cells.le_trans b d.1,d.2.1.trans l.2.1,d.2.2.1.trans l.2.2.1,d.2.2.2.trans l.2.2.2⟩
  have y:=LH.le_trans A B;have P:=List.length_filter_le (allB 5 k i) x.events;have w:titlesL x k i=(askDays x k i).map .ask++turnsL x k i (x.events.filter (allB 5 k i)):=rfl;rw[w];generalize hF:x.events.filter (allB 5 k i)=F at C D P;have a0:h3.le (h3.add (onlyOf h2.get q)):=⟨Zm _ _,rfl,rfl,rfl⟩
  refine Dr a0 hH (fun j vs h'=>∃ (q:Option Addr) (m s:Nat),vs=[.slice q m s]/\Growing (TitleEnc f x k i) 256 1 h3.get h'.get q m s ((askDays x k i).map .ask++turnsL x k i (F.take j)))
   ⟨q,m,s,rfl,by simpa[turnsL,LH.add] using Growing.over g d3⟩ ?_ ?_
  ·rintro vs h' hle ⟨q,m,s,rfl,g⟩;rw[C,List.take_of_length_le (Nat.le_refl _)]at g;refine gZ ?_;refine Qh ⟨LH.le_trans y hle,q,m,s,rfl,g.sl TitleEnc.len (by omega) TitleEnc.e ?_⟩;rw[w,hF]at Z;omega
  ·rintro j xs vs h' R hle ⟨q,m,s,rfl,g⟩ Y2 E;obtain⟨e,qe,me,ce,he,rfl,l0⟩:=D j xs R;have t:F.take (j+1)=F.take j++[e]:=by rw[List.take_add_one,he];rfl
   have u:=LH.le_trans y hle;unfold evV;refine gZ ?_;refine t_gr (c2064 (M.le u.1) (N.le u.1) rt k i e.day) ?_;rintro _ h4 o rfl;have z:=LH.le_trans u o;cases ho:turnO x k i e.day with
   | none =>
    have V:=(turnO_none rt.ok).1 ho;simp only[Option.isSome,Kl,zeroAsk];refine yF ?_;refine gZ ?_;refine Ju (LH.le_trans hle o) (E _ _ (LH.le_trans hle o) ⟨q,m,s,rfl,?_⟩);rw[t,turns_skip V];exact g.le o.1
   | some a =>
    obtain⟨Q,G⟩:=Do rt.ok ho;simp only[Option.isSome,Kl,askCells];refine yT ?_;refine gZ ?_;refine t_gr (c2094 (M.le z.1) (N.le z.1) k i e.day) ?_;rintro _ h5 I rfl;refine gZ ?_;have hm:m<=100:=by
     rw[g.count TitleEnc.len (by omega),List.length_append,List.length_map];unfold turnsL;rw[List.length_map];have h1:=List.length_filter_le (fun e:Ev=>decide (0<=turned x k i e.day)) (F.take j);have h2:(F.take j).length<=F.length:=by rw[List.length_take];omega
     omega
    refine Zg [titleV f x k i (.turn a e.day)] Uo infTitle (by decide) (by decide) (by kernel_rfl) ?_;intro r h6 J _ W;refine gZ ?_;refine Db (h₀:=h3) (Enc:=TitleEnc f x k i) (Title.turn a e.day) [titleV f x k i (.turn a e.day)] rfl rfl Uo infTitle rfl (by omega) (by omega) (g.le (LH.le_trans o (LH.le_trans I J)).1) (LH.le_trans hle (LH.le_trans o (LH.le_trans I J))) rfl rfl W (by simp[titleV_one]) ?_;intro p' c' h7 K m0 g7;refine gZ ?_;refine Ju K (E _ _ K ⟨p',_,c',rfl,?_⟩);rw[t,turns_step (by rw[<- G];exact Q),<- List.append_assoc,<- G];exact g7
end
section
open Go.TM.Tr
attribute [local irreducible] T.wp CV FWK
variable {x:TF}{h:LH}{f:TC}
theorem dated_all(x:TF)(k i d a:Int)(b:a<=10000):dated x k i d a=Jf a (((x.events.filter (allB 6 k i)).filter fun e=>decide (e.day<=d)&&decide (e.since<=a)).map (·.since)):=by
 unfold dated oldL;rw[Kx _ _ b,List.filter_filter,Dy];have:(x.events.filter fun e=>about e 6 k i&&(decide (e.day<=d)&&decide (e.since<=a)))=x.events.filter fun e=>(decide (e.day<=d)&&decide (e.since<=a))&&allB 6 k i e:=by
  refine List.filter_congr fun e _=>?_;rw[Kv (by decide),Bool.and_comm];rfl
 rw[this]
theorem dateOn_least(v:Ok x)(k i d:Int):dateOn x k i d=if least ((held x k i d).map (dated x k i d))=10000 then -1 else least ((held x k i d).map (dated x k i d)):=by
 unfold dateOn;rcases Gc (Dk v (k:=k) (i:=i) (d:=d)) with⟨h1,h2⟩|⟨h1,h2⟩
 ·rw[h1,h2];rfl
 ·rw[h2];have:=Dk v (k:=k) (i:=i) (d:=d) _ h1;rw[h2]at this;rw[if_neg (by omega)]
theorem title_low(rt:Right x){k i:Int}{t:Title}(h:t∈titlesL x k i):Zz t<=10000:=by
 rcases titles_ask h with⟨a,rfl,b⟩|⟨e,_,rfl,_⟩
 ·have:=rt.askDay b;show a<=10000;omega
 ·show turned x k i e.day<=10000;rcases Hr rt.ok k i e.day with⟨h1,_⟩|⟨h1,_⟩
  ·omega
  ·have:=rt.ok.turnedL _ h1;omega
theorem c2060(R:Kinds h.get)(V:TreatyR h.get f x)(rt:Right x)(k i d:Int) :
  Gr Tryz.prog 112 #[matV f x k i,d] h fun r _=>r=.int .i64 (dateOn x k i d):=by
 refine w2060 _ _ _ _ _ _ _ _ _ _ _ _ Qr ?_;unfold n2060;refine t_gr (c2082 R V rt k i) ?_;rintro _ h₁ W ⟨p,n,c,rfl,U⟩;refine gZ ?_;have hn:=U.1;have hb:=U.2.1;have g0:=titles_len x k i;have S:=rt.many;refine Je (fun mm vs h'=>h₁.le h'/\∃ (j:Nat) (b:Int),vs=[.int .i64 b,.int .i64 j,.int .i64 x.items,.int .i64 x.lands,.int .i64 x.start,.int .i64 x.depend,.int .i64 x.refuse,.int .i64 x.turn,.slice f.p f.n f.c,.int .i64 k,.int .i64 i,.int .i64 d]/\j<=n/\mm=n-j/\b<=10000 /\
   least ((held x k i d).map (dated x k i d))=Jf b (((((titlesL x k i).drop j).filter (titleOn x k i d)).map Zz).map (dated x k i d)))
  ⟨LH.le_refl _,0,10000,rfl,Nat.zero_le _,rfl,Int.le_refl _,by rw[List.drop_zero,titles_held,Gk]⟩ ?_
 rintro Y mm vs h2 hY ⟨A,j,b,rfl,hj,rfl,hb1,hc⟩;have l:=LH.le_trans W A;have next:∀ h' (B:Int),h₁.le h'->j+1<=n->B<=10000->least ((held x k i d).map (dated x k i d))=Jf B (((((titlesL x k i).drop (j+1)).filter (titleOn x k i d)).map Zz).map (dated x k i d)) ->
   Y [.int .i64 B,.int .i64 (wrap .i64 ((j:Int)+1)),.int .i64 x.items,.int .i64 x.lands,.int .i64 x.start,.int .i64 x.depend,.int .i64 x.refuse,.int .i64 x.turn,.slice f.p f.n f.c,.int .i64 k,.int .i64 i,.int .i64 d] h':=by
  intro h' B E e0 M N;refine hY (n-(j+1)) _ _ (by omega) ⟨E,j+1,B,?_,by omega,rfl,M,N⟩;rw[Qm (by omega) (by omega)];rfl
 refine yJ (fun e1=>?_) (fun e1=>?_)
 ·obtain⟨t,ad,Z,K,he⟩:=(U.le TitleE.grow A.1).at (i:=j) (by omega);unfold TitleE at he;rw[G6]at he;have G:=List.mem_of_getElem? Z;rw[Jy Z,List.filter_cons]at hc;subst K;refine gT (by omega) (gS2 rfl (D9 he ?_));refine J9 (cv_title (R.le l.1) (V.le l.1) rt k i d G) ?_;rintro _ h3 ⟨I,rfl⟩;have u:=LH.le_trans l I;have w:=LH.le_trans A I;refine yI (fun o=>?_) (fun o=>?_)
  ·have o:titleOn x k i d t=false:=by simpa using o
   rw[o,if_neg (by simp)]at hc;exact Qj (next h3 b w (by omega) hb1 hc)
  ·have o:titleOn x k i d t=true:=by simpa using o
   rw[o,if_pos rfl,List.map_cons,List.map_cons,Jf]at hc;have s:=title_low rt G;refine Yy Qr (R.le u.1) (V.le u.1) k i 6 (by decide) ?_;intro v h4 L X J C hH;have D:=dated_all x k i d (Zz t) s;generalize hF:x.events.filter (allB 6 k i)=F at J C D;have H:=LH.le_trans w X;refine Dr (LH.le_refl h4) hH (fun j vs h'=>∃ a:Int,vs=[.int .i64 a]/\a<=10000/\dated x k i d (Zz t)=Jf a (((F.drop j).filter fun e=>decide (e.day<=d)&&decide (e.since<=Zz t)).map (·.since)))
    ⟨_,rfl,s,D⟩ ?_ ?_
   ·rintro vs h' hle ⟨a,rfl,z,g⟩;rw[List.drop_eq_nil_of_le (by omega)]at g;simp only[List.filter_nil,List.map_nil,Jf]at g;rw[g]at hc;refine gZ ?_;exact Qj (next h' _ (LH.le_trans H hle) (by omega) (by split<;>omega) hc)
   ·rintro j2 xs vs h' Q hle ⟨a,rfl,z,g⟩ Y2 y;obtain⟨e,q,m,cc,P,rfl,a0⟩:=C j2 xs Q;rw[Jy P,List.filter_cons]at g;unfold evV;refine yJ (fun e3=>?_) (fun e3=>?_)
    ·refine t_if (fun e4=>?_) (fun e4=>?_)
     ·rw[if_pos (by simp;omega),List.map_cons,Jf]at g;exact Ju hle (y _ _ hle ⟨_,rfl,by split<;>omega,g⟩)
     ·rw[if_neg (by simp;omega)]at g;exact Ju hle (y _ _ hle ⟨_,rfl,z,g⟩)
    ·rw[if_neg (by simp;omega)]at g;exact Ju hle (y _ _ hle ⟨_,rfl,z,g⟩)
 ·refine gZ ?_;rw[List.drop_eq_nil_of_le (by omega)]at hc;simp only[List.filter_nil,List.map_nil,Jf]at hc;have O:=dateOn_least rt.ok k i d;rw[hc]at O;refine Qt (fun o=>?_) (fun o=>?_)
  ·exact Qh ⟨l,by rw[O,if_pos (by simpa using o)]⟩
  ·exact Qh ⟨l,by rw[O,if_neg (by simpa using o)]⟩
def datesT(x:TF)(k d:Int):List Int:=(List.range x.items.toNat).map fun i:Nat=>dateOn x k (i:Int) d
def DatesR(h:Cells)(x:TF)(k d:Int)(r:Value):Prop :=
 (Qy x k d≠0/\r=.tuple #[.slice none 0 0,.int .i64 (Qy x k d)]) \/
 (Qy x k d=0/\∃ p n c,r=.tuple #[.slice p n c,.int .i64 0]/\Sl IntE 1 h p n (datesT x k d)/\n<=c)
theorem c2026(t:Kinds h.get)(u:TreatyR h.get f x)(k d:Int):Gr Tryz.prog 58 #[treatyV f x,k,d] h fun r h'=>DatesR h'.get x k d r:=by
 refine w2026 Qr ?_;refine t_pu (c2063 t u k d) ?_;refine yI (fun e=>?_) (fun e=>?_)
 ·exact Qh ⟨LH.le_refl _,.inl ⟨by simpa using e,rfl⟩⟩
 have s:Qy x k d=0:=by simpa using e
 have b:=(G5 (H5 s).1).1;have rt:=Right.of b;have A:=(Zq b).1;refine Je (fun v vs h'=>h.le h'/\∃ (j:Nat) (p:Option Addr) (n c:Nat),vs=[.slice p n c,.int .i64 j]/\(j:Int)<=x.items/\v=x.items.toNat-j/\Growing IntEnc 3 1 h.get h'.get p n c ((List.range j).map fun i:Nat=>dateOn x k (i:Int) d))
  ⟨LH.le_refl _,0,none,0,0,rfl,by omega,rfl,Growing.nil⟩ ?_
 rintro Y v vs h₁ z ⟨a,j,p,n,c,rfl,D,rfl,g⟩;refine yJ (fun w=>?_) (fun w=>?_)
 ·refine t_gr (c2060 (t.le a.1) (u.le a.1) rt k j d) ?_;rintro _ h2 l rfl;refine gZ ?_;have B:n=j:=by rw[g.count IntEnc.len (by omega)];simp
  refine G9 (dateOn x k j d) [.int .i64 (dateOn x k j d)] rfl rfl und50 inf3 rfl (by omega) (by decide) (by kernel_rfl) rfl (by simp;rfl) (by omega) (g.le l.1) (LH.le_trans a l) rfl ?_;intro C c' h3 q _ y;refine gZ ?_;refine Qj (z (x.items.toNat-(j+1)) _ _ (by omega) ⟨q,j+1,C,n+1,c',?_,by omega,rfl,?_⟩)
  ·rw[Qm (by omega) (by omega)];rfl
  ·rw[List.range_succ,List.map_append];exact y
 ·refine gZ ?_;have m:x.items.toNat=j:=by omega
  refine Qh ⟨a,.inr ⟨s,p,n,c,rfl,?_,?_⟩⟩
  ·unfold datesT;rw[m];exact g.sl IntEnc.len (by omega) IntEnc.e (by simp;omega)
  ·obtain⟨vs,o,_⟩:=g.row;exact o.le_cap
end
section
open Go.TM.Tr
attribute [local irreducible] T.wp CV FWK
def protT(x:TF)(k d:Int):List Bool:=(datesT x k d).map fun d=>decide (d>=0)
def ProtR(h:Cells)(x:TF)(k d:Int)(r:Value):Prop :=
 ∃ p n c,r=.tuple #[.slice p n c,.int .i64 (Qy x k d)]/\Sl BoolE 1 h p n (if Qy x k d=0 then protT x k d else [])/\n<=c
variable {h:LH}{f:TC}{x:TF}
theorem dates_len(x:TF)(k d:Int):(datesT x k d).length=x.items.toNat:=by unfold datesT;simp
theorem c2018(hk:Kinds h.get)(hx:TreatyR h.get f x)(k d:Int):Gr Tryz.prog 57 #[treatyV f x,.int .i64 k,.int .i64 d] h fun r h'=>ProtR h'.get x k d r:=by
 refine w2018 Qr ?_;refine t_gr (c2026 hk hx k d) ?_;intro r h₁ D hr;obtain⟨p,n,c,g,l,rfl,R,P,Q,a0⟩ : ∃ p n c g l,r=.tuple #[.slice p n c,.int .i64 g]/\Sl IntE 1 h₁.get p n l/\g=Qy x k d/\(if Qy x k d=0 then protT x k d else [])=l.map (fun d=>decide (d>=0))/\l.length<=5:=by
  rcases hr with⟨h1,rfl⟩|⟨h1,p,n,c,rfl,h2,h3⟩
  ·exact⟨none,0,0,_,[],rfl,Sl.nil,rfl,by rw[if_neg h1];rfl,by simp⟩
  ·refine⟨p,n,c,0,_,rfl,h2,h1.symm,by rw[if_pos h1];rfl,?_⟩;have:=(Zq (G5 (H5 h1).1).1).1;rw[dates_len];omega
 refine gZ ?_;have E:=R.1;refine Kg fun r hr=>?_;have A:∀ cs,h₁.le { h₁ with get:=h₁.get.upd r (true,.cells cs 193 (0,0)) }:=fun cs=>Q1 hr;refine Je (fun U vs h'=>∃ (j:Nat) (cs:Array Value),vs=[.int .i64 j]/\j<=n/\U=n-j/\h'={ h₁ with get:=h₁.get.upd r (true,.cells cs 193 (0,0)) }/\cs.size=5/\(∀ (i:Nat) y,i<j->l[i]?=some y->cs[i]?=some (.bool (decide (y>=0))))/\∀ i:Nat,j<=i->i<5->cs[i]?=some (.bool false))
  ⟨0,#[.bool false,.bool false,.bool false,.bool false,.bool false],rfl,Nat.zero_le _,rfl,rfl,rfl,fun i y u=>absurd u (Nat.not_lt_zero _),fun i _ u=>by match i,u with|0,_|1,_|2,_|3,_|4,_=>rfl⟩ ?_
 rintro Y U vs _ hY ⟨j,cs,rfl,hj,rfl,rfl,N,q,t⟩;refine yJ (fun X=>?_) (fun X=>?_)
 ·obtain⟨y,a,hy,ha,Z⟩:=(R.le IntE.grow (A cs).1).at (i:=j) (by omega);unfold IntE at Z;refine gZ ?_;refine D6 (o:=j) (by rw[Qa,Qa];simp) rfl (by omega) ?_;refine Qj (hY (n-(j+1)) _ _ (by omega) ⟨j+1,_,?_,by omega,rfl,rfl,by simp[N],fun i z u w=>?_,fun i u h5=>?_⟩)
  ·rw[Qm (by omega) (by omega)];rfl
  ·by_cases e:i=j
   ·subst e;rw[hy]at w;cases w;rw[Array.getElem?_setIfInBounds_self_of_lt (by omega)]
   ·rw[Array.getElem?_setIfInBounds_ne (Ne.symm e)];exact q i z (by omega) w
  ·rw[Array.getElem?_setIfInBounds_ne (by omega)];exact t i (by omega) h5
 ·refine gZ ?_;have L:j=n:=by omega
  subst L;obtain⟨bs,B,s⟩ : ∃ bs:List Bool,bs.length=5/\∀ (i:Nat) b,bs[i]?=some b->cs[i]?=some (.bool b):=by
   refine⟨(List.range 5).map fun i:Nat=>match (l[i]? : Option Int) with|some y=>decide (y>=0)|none=>false,by simp,fun i b hb=>?_⟩;rw[List.getElem?_map]at hb;by_cases h5:i<5
   ·rw[List.getElem?_range h5]at hb;simp only[Option.map_some,Option.some.injEq]at hb;cases m:l[i]? with
    | none =>
     rw[m]at hb;subst hb;exact t i (by rw[E];exact List.getElem?_eq_none_iff.1 m) h5
    | some y =>
     rw[m]at hb;subst hb;exact q i y (by rw[E];exact(List.getElem?_eq_some_iff.1 m).1) m
   ·rw[List.getElem?_eq_none (by simp;omega)]at hb;cases hb
  match bs,B with
  | [b0,b1,b2,F,G],_ =>
   have c0:Cells.cell? (h₁.get.upd r (true,.cells cs 193 (0,0))) (Addr.add ⟨r,0,none⟩ 0)=some (.bool b0):=by rw[Qa];exact Q6 (s 0 _ rfl)
   have c1:Cells.cell? (h₁.get.upd r (true,.cells cs 193 (0,0))) (Addr.add ⟨r,0,none⟩ 1)=some (.bool b1):=by rw[Qa];exact Q6 (s 1 _ rfl)
   have c2:Cells.cell? (h₁.get.upd r (true,.cells cs 193 (0,0))) (Addr.add ⟨r,0,none⟩ 2)=some (.bool b2):=by rw[Qa];exact Q6 (s 2 _ rfl)
   have c3:Cells.cell? (h₁.get.upd r (true,.cells cs 193 (0,0))) (Addr.add ⟨r,0,none⟩ 3)=some (.bool F):=by rw[Qa];exact Q6 (s 3 _ rfl)
   have c4:Cells.cell? (h₁.get.upd r (true,.cells cs 193 (0,0))) (Addr.add ⟨r,0,none⟩ 4)=some (.bool G):=by rw[Qa];exact Q6 (s 4 _ rfl)
   refine gL2 c0 (gL2 c1 (gL2 c2 (gL2 c3 (gL2 c4 ?_))));refine t_eqA5 undItems bo4 inf4 gItems ?_;refine yI (fun e=>?_) (fun e=>?_)
   ·have e:[b0,b1,b2,F,G]=[false,false,false,false,false]:=by simpa only [decide_eq_true_eq] using e
    refine t_makeSlice undBs inf4 rfl (by decide) (by omega) fun r2 W M S C=>?_;refine gZ ?_;refine Qh ⟨LH.le_trans (LH.le_trans D (A cs)) (Q1 M),_,_,_,by rw[P],?_,Nat.le_refl _⟩;rw[Q];refine⟨by rw[List.length_map];exact E,by rw[List.length_map];omega,fun i b hb=>⟨_,rfl,?_⟩⟩;unfold BoolE;rw[Qa,Qa];rw[List.getElem?_map]at hb;cases m:l[i]? with
    | none=>rw[m]at hb;cases hb
    | some y =>
     rw[m]at hb;simp only[Option.map_some,Option.some.injEq]at hb;have u:=(List.getElem?_eq_some_iff.1 m).1;have h1:=q i y (by omega) m;have v:=C i (by omega);have K:b=false:=by
      have h2:=s i
      match i,u with
      | 0,_=>have:=h2 b0 rfl;cases e;rw[this]at h1;simp only[Option.some.injEq,Value.bool.injEq]at h1;rw[<- hb,<- h1]
      | 1,_=>have:=h2 b1 rfl;cases e;rw[this]at h1;simp only[Option.some.injEq,Value.bool.injEq]at h1;rw[<- hb,<- h1]
      | 2,_=>have:=h2 b2 rfl;cases e;rw[this]at h1;simp only[Option.some.injEq,Value.bool.injEq]at h1;rw[<- hb,<- h1]
      | 3,_=>have:=h2 F rfl;cases e;rw[this]at h1;simp only[Option.some.injEq,Value.bool.injEq]at h1;rw[<- hb,<- h1]
      | 4,_=>have:=h2 G rfl;cases e;rw[this]at h1;simp only[Option.some.injEq,Value.bool.injEq]at h1;rw[<- hb,<- h1]
      | i+5,u=>omega
     rw[K];have w:0+i*1+0=i:=by omega
     rw[w];exact Q6 v
   ·refine t_sliceArr undItems inf4 (by omega) fun V H I=>?_;refine gZ ?_;refine Qh ⟨LH.le_trans D (A cs),_,_,_,by rw[P],?_,Nat.le_refl _⟩;rw[Q];have J:V=⟨r,0,none⟩:=by
     by_cases O:j=0
     ·exact H O
     ·rw[I O,Qa]
    subst J;refine⟨by rw[List.length_map];exact E,by rw[List.length_map];omega,fun i b hb=>⟨_,rfl,?_⟩⟩;unfold BoolE;rw[Qa,Qa];rw[List.getElem?_map]at hb;cases m:l[i]? with
    | none=>rw[m]at hb;cases hb
    | some y =>
     rw[m]at hb;simp only[Option.map_some,Option.some.injEq]at hb;have u:=(List.getElem?_eq_some_iff.1 m).1;have h1:=q i y (by omega) m;have w:0+i*1+0=i:=by omega
     rw[w,<- hb];exact Q6 h1
def turnsT(x:TF)(k d:Int):List Int:=((List.range x.items.toNat).filter fun i:Nat=>decide (0<=turned x k (i:Int) d)).map fun i:Nat=>(i:Int)
def TurnsR(h:Cells)(x:TF)(k d:Int)(r:Value):Prop :=
 (Qy x k d≠0/\r=.tuple #[.slice none 0 0,.int .i64 (Qy x k d)]) \/
 (Qy x k d=0/\∃ p n c,r=.tuple #[.slice p n c,.int .i64 0]/\Sl IntE 1 h p n (turnsT x k d)/\n<=c)
theorem c2029(z:Kinds h.get)(B:TreatyR h.get f x)(k d:Int):Gr Tryz.prog 60 #[treatyV f x,k,d] h fun r h'=>TurnsR h'.get x k d r:=by
 refine w2029 Qr ?_;refine t_pu (c2063 z B k d) ?_;refine yI (fun e=>?_) (fun e=>?_)
 ·exact Qh ⟨LH.le_refl _,.inl ⟨by simpa using e,rfl⟩⟩
 have w:Qy x k d=0:=by simpa using e
 have m:=(G5 (H5 w).1).1;have rt:=Right.of m;have F:=(Zq m).1;refine Je (fun C vs h'=>h.le h'/\∃ (j:Nat) (p:Option Addr) (n c:Nat),vs=[.slice p n c,.int .i64 j]/\(j:Int)<=x.items/\C=x.items.toNat-j/\Growing IntEnc 3 1 h.get h'.get p n c (((List.range j).filter fun i:Nat=>decide (0<=turned x k (i:Int) d)).map fun i:Nat=>(i:Int)))
  ⟨LH.le_refl _,0,none,0,0,rfl,by omega,rfl,Growing.nil⟩ ?_
 rintro Y C vs h₁ y ⟨b,j,p,n,c,rfl,I,rfl,g⟩;have G:n<=j:=by
  rw[g.count IntEnc.len (by omega),List.length_map];have:=List.length_filter_le (fun i:Nat=>decide (0<=turned x k (i:Int) d)) (List.range j);rw[List.length_range]at this;exact this
 refine yJ (fun D=>?_) (fun D=>?_)
 ·refine t_gr (c2064 (z.le b.1) (B.le b.1) rt k j d) ?_;rintro _ h2 l rfl;cases A:turnO x k (j:Int) d with
  | none =>
   have u:=(turnO_none rt.ok).1 A;simp only[Option.isSome,Kl,zeroAsk];refine yF ?_;refine Qj (y (x.items.toNat-(j+1)) _ _ (by omega) ⟨LH.le_trans b l,j+1,p,n,c,?_,by omega,rfl,?_⟩)
   ·rw[Qm (by omega) (by omega)];rfl
   ·rw[List.range_succ,List.filter_append,List.filter_cons,if_neg (by simpa using u)];simpa using g.le l.1
  | some a =>
   obtain⟨q,s⟩:=Do rt.ok A;simp only[Option.isSome,Kl,askCells];refine yT ?_;refine G9 (j:Int) [.int .i64 (j:Int)] rfl rfl und50 inf3 rfl (by omega) (by decide) (by kernel_rfl) rfl (by simp;rfl) (by omega) (g.le l.1) (LH.le_trans b l) rfl ?_;intro H c' h3 v _ E;refine gZ ?_;refine Qj (y (x.items.toNat-(j+1)) _ _ (by omega) ⟨v,j+1,H,n+1,c',?_,by omega,rfl,?_⟩)
   ·rw[Qm (by omega) (by omega)];rfl
   ·rw[List.range_succ,List.filter_append,List.filter_cons,if_pos (by rw[<- s];simpa using q),List.map_append];exact E
 ·refine gZ ?_;have t:x.items.toNat=j:=by omega
  refine Qh ⟨b,.inr ⟨w,p,n,c,rfl,?_,?_⟩⟩
  ·unfold turnsT;rw[t];refine g.sl IntEnc.len (by omega) IntEnc.e ?_;rw[<- g.count IntEnc.len (by omega)];omega
  ·obtain⟨vs,o,_⟩:=g.row;exact o.le_cap
end
section
open Go.TM.Tr
attribute [local irreducible] T.wp CV FWK
def KindsOk(x:TF):Prop:=∀ e∈x.events,0<=e.kind/\e.kind<=6
variable {x:TF}{h:LH}{f:TC}
theorem KindsOk.of(h:checkT x=0):KindsOk x:=fun e he=>(Ys.1 (H4 h e he)).kind
theorem KindsOk.nat(h:KindsOk x){e:Ev}(he:e∈x.events):∃ n:Nat,e.kind=n/\n<7:=by
 have:=h e he;exact⟨e.kind.toNat,by omega,by omega⟩
theorem gives_int{n:Nat}(a:n<7){e:Ev}(he:e.kind=n):givesK n=givesB e:=by
 unfold givesB;rw[he]
 match n,a with
 | 0,_|1,_|2,_|3,_|4,_|5,_|6,_=>rfl
theorem cv_gives(n:Nat):CV X0 Tryz.prog (.func (.func (if givesK n then 294 else 295)) #[] #[]) #[] h fun r h'=>r=.bool (givesK n)/\h=h':=by
 cases a:givesK n with
 | true=>exact H2 Qr (by rfl) (FW.mono c2140 fun _ _ h=>⟨h.1,h.2.symm⟩)
 | false=>exact H2 Qr (by rfl) (FW.mono c2141 fun _ _ h=>⟨h.1,h.2.symm⟩)
theorem Hz{e:Ev}:∀ (l:List Ev) (n:Int),givingGo (l++[e]) n=givingGo l n++if givesB e then [n+(l.length:Int)] else []
 | [],n=>by simp[givingGo]
 | c::l,n=>by
  rw[List.cons_append,givingGo,givingGo,Hz l (n+1)];have:n+1+(l.length:Int)=n+((c::l).length:Int):=by simp;omega
  rw[this];split<;>simp
theorem Un{L:List Int}{e:Ev}:∀ (l:List Ev) (n:Int),withGo L (l++[e]) n=withGo L l n++if (!givesB e||L.contains (n+(l.length:Int))) then [e] else []
 | [],n=>by simp[withGo]
 | c::l,n=>by
  rw[List.cons_append,withGo,withGo,Un l (n+1)];have:n+1+(l.length:Int)=n+((c::l).length:Int):=by simp;omega
  rw[this];split<;>simp
theorem Dz:∀ (l:List Ev) (n:Int),(givingGo l n).length<=l.length
 | [],_=>Nat.le_refl _
 | c::l,n=>by
  have:=Dz l (n+1);rw[givingGo];split<;>simp<;>omega
theorem Ya(L:List Int):∀ (l:List Ev) (n:Int),(withGo L l n).length<=l.length
 | [],_=>Nat.le_refl _
 | c::l,n=>by
  have:=Ya L l (n+1);rw[withGo];split<;>simp<;>omega
theorem Right.with(r:Right x)(L:List Int):Right (withE x L) :=
 ⟨Y7 r.ok L,r.start,r.depend,r.refuse,r.turn,Nat.le_trans (Ya L x.events 0) r.many⟩
theorem c2067(E:Kinds h.get)(G:TreatyR h.get f x)(t:KindsOk x)(u:x.events.length<=10) :
  Gr Tryz.prog 117 #[treatyV f x] h fun r h'=>∃ p n c,r=.slice p n c/\Sl IntE 1 h'.get p n (giving x)/\n<=c:=by
 refine w2067 Qr ?_;have z:=G.2;have O:=z.1;refine Je (fun A vs h'=>h.le h'/\∃ (j:Nat) (p:Option Addr) (n c:Nat),vs=[.slice p n c,.int .i64 j]/\j<=f.n/\A=f.n-j/\Growing IntEnc 3 1 h.get h'.get p n c (givingGo (x.events.take j) 0))
  ⟨LH.le_refl _,0,none,0,0,rfl,Nat.zero_le _,rfl,Growing.nil⟩ ?_
 rintro Y A vs h₁ y ⟨d,j,p,n,c,rfl,N,rfl,g⟩;have F:n<=10:=by
  rw[g.count IntEnc.len (by omega)];have:=Dz (x.events.take j) 0;rw[List.length_take]at this;omega
 refine yJ (fun B=>?_) (fun B=>?_)
 ·obtain⟨e,a,he,M,C,K,L,⟨q,m,J,w,_,g5⟩,g4⟩:=(z.le EventE.grow d.1).at (i:=j) (by omega);obtain⟨H,l,k⟩:=t.nat (List.mem_of_getElem? he);have b:x.events.take (j+1)=x.events.take j++[e]:=by rw[List.take_add_one,he];rfl
  have hlen:(x.events.take j).length=j:=by rw[List.length_take];omega
  have D:=(E.le d.1).givesAt k;rw[l]at C;refine gZ ?_;refine D9 D ?_;refine J9 (cv_gives H) ?_;rintro _ _ ⟨rfl,rfl⟩;rw[gives_int k l];refine yI (fun s=>?_) (fun s=>?_)
  ·refine G9 (j:Int) [.int .i64 (j:Int)] rfl rfl und50 inf3 rfl (by omega) (by decide) (by kernel_rfl) rfl (by simp;rfl) (by omega) g d rfl ?_;intro I c' h3 v _ w;refine gZ ?_;refine Qj (y (f.n-(j+1)) _ _ (by omega) ⟨v,j+1,I,n+1,c',?_,by omega,rfl,?_⟩)
   ·rw[Qm (by omega) (by omega)];rfl
   ·rw[b,Hz,if_pos s,hlen,Int.zero_add];exact w
  ·refine Qj (y (f.n-(j+1)) _ _ (by omega) ⟨d,j+1,p,n,c,?_,by omega,rfl,?_⟩)
   ·rw[Qm (by omega) (by omega)];rfl
   ·rw[b,Hz,if_neg (by rw[s];simp),List.append_nil];exact g
 ·refine gZ ?_;rw[List.take_of_length_le (by omega)]at g;refine Qh ⟨d,p,n,c,rfl,g.sl IntEnc.len (by omega) IntEnc.e ?_,?_⟩
  ·show (givingGo x.events 0).length<_;rw[<- g.count IntEnc.len (by omega)];omega
  ·obtain⟨vs,o,_⟩:=g.row;exact o.le_cap
theorem c2069(V:Kinds h.get)(hx:TreatyR h.get f x)(rt:Right x)(H:KindsOk x)(k i d:Int){R:Option Addr}{P ec:Nat}{L:List Int}(hL:Sl IntE 1 h.get R P L) :
  Gr Tryz.prog 119 #[treatyV f x,k,.int .i64 i,d,.slice R P ec] h fun r _=>r=.bool (holdsB x k i d L):=by
 refine w2069 Qr ?_;have W:=hx.2;have hn:=W.1;have I:=rt.many;refine Je (fun X vs h'=>h.le h'/\∃ (j:Nat) (p:Option Addr) (n c:Nat),vs=[.int .i64 j,.int .i64 x.items,.int .i64 x.lands,.int .i64 x.start,.int .i64 x.depend,.int .i64 x.refuse,.int .i64 x.turn,.slice p n c]/\j<=f.n/\X=f.n-j/\Growing (EventEnc h.get) 120 5 h.get h'.get p n c (withGo L (x.events.take j) 0))
  ⟨LH.le_refl _,0,none,0,0,rfl,Nat.zero_le _,rfl,Growing.nil⟩ ?_
 rintro Y X vs h₁ hY ⟨b,j,p,n,c,rfl,hj,rfl,g⟩;have a0:n<=10:=by
  rw[g.count EventEnc.len (by omega)];have:=Ya L (x.events.take j) 0;rw[List.length_take]at this;omega
 refine yJ (fun Z=>?_) (fun Z=>?_)
 ·obtain⟨e,a,he,ha,G,S,U,⟨q,m,B,C,g6,g5⟩,g4⟩:=W.at (i:=j) (by omega);have A:EventEnc h.get e [.int .i64 e.kind,.int .i64 e.day,.int .i64 e.land,.slice q m B,.int .i64 e.since]:=⟨q,m,B,rfl,g6,g5⟩
  obtain⟨M,z,y⟩:=H.nat (List.mem_of_getElem? he);have t:x.events.take (j+1)=x.events.take j++[e]:=by rw[List.take_add_one,he];rfl
  have hlen:(x.events.take j).length=j:=by rw[List.length_take];omega
  have hg:=(V.le b.1).givesAt y;rw[z]at G A;have G:=Qo b.1 G;have S:=Qo b.1 S;have U:=Qo b.1 U;have C:=Qo b.1 C;have g4:=Qo b.1 g4;refine gZ ?_;refine D9 hg ?_;refine J9 (cv_gives M) ?_;rintro _ _ ⟨rfl,rfl⟩;rw[gives_int y z];have keep:(!givesB e||L.contains (j:Int))=true->∀ {K:Value->T} {Q:Leaf->LH->Prop},(∀ s c' h',h.le h'->Growing (EventEnc h.get) 120 5 h.get h'.get s (n+1) c' (withGo L (x.events.take (j+1)) 0)->(K (.slice s (n+1) c')).wp X0 Tryz.prog Q h') ->
    (T.sem false (Instr.buildSlice 36 1 #[(0,.agg #[.int .i64 (M:Int),.int .i64 e.day,.int .i64 e.land,.slice q m B,.int .i64 e.since])]) fun v=>T.unS v fun a m mc=>T.sem false (Builtin.append_ #[36,36] 36 #[.slice p n c,.slice a m mc]) K).wp X0 Tryz.prog Q h₁:=by
   intro u K Q hK;refine G9 e [.int .i64 (M:Int),.int .i64 e.day,.int .i64 e.land,.slice q m B,.int .i64 e.since] rfl rfl undEvs infEv rfl (by omega) (by decide) (by kernel_rfl) rfl ?_ (by omega) g b A ?_
   ·intro w hw;simp only[List.mem_cons,List.not_mem_nil,or_false]at hw;rcases hw with rfl|rfl|rfl|rfl|rfl<;>rfl
   ·intro s c' h3 O _ C;refine hK s c' h3 O ?_;rw[t,Un,hlen,Int.zero_add,if_pos u];exact C
  have next:∀ h' s D c',h.le h'->Growing (EventEnc h.get) 120 5 h.get h'.get s D c' (withGo L (x.events.take (j+1)) 0)->Y [.int .i64 (wrap .i64 ((j:Int)+1)),.int .i64 x.items,.int .i64 x.lands,.int .i64 x.start,.int .i64 x.depend,.int .i64 x.refuse,.int .i64 x.turn,.slice s D c'] h':=by
   intro h' s D c' l g';refine hY (f.n-(j+1)) _ _ (by omega) ⟨l,j+1,s,D,c',?_,by omega,rfl,g'⟩;rw[Qm (by omega) (by omega)];rfl
  refine yI (fun E=>?_) (fun E=>?_)
  ·refine keep (by rw[E,Bool.true_or]) fun s c' h' l g'=>?_;refine gZ ?_;exact Qj (next h' s _ c' l g')
  ·refine t_pu (c100 (hL.le IntE.grow b.1) (j:Int)) ?_;refine yI (fun F=>?_) (fun F=>?_)
   ·refine keep (by rw[F,Bool.or_true]) fun s c' h' l g'=>?_;refine gZ ?_;exact Qj (next h' s _ c' l g')
   ·refine Qj (next h₁ p n c b ?_);rw[t,Un,hlen,Int.zero_add,if_neg (by rw[E,F];simp),List.append_nil];exact g
 ·refine gZ ?_;rw[List.take_of_length_le (by omega)]at g;have J:TreatyR h₁.get ⟨p,n,c⟩ (withE x L):=by
   refine⟨?_,g.sl EventEnc.len (by omega) (EventEnc.e (Jj b.1)) ?_⟩
   ·obtain⟨vs,o,_⟩:=g.row;exact o.le_cap
   ·show (withGo L x.events 0).length<_;rw[<- g.count EventEnc.len (by omega)];omega
  refine t_gr (c2060 (V.le b.1) J (rt.with L) k i d) ?_;rintro _ h2 N rfl;refine gZ ?_;exact Qh ⟨LH.le_trans b N,rfl⟩
end
end Go.Y.Tre
section
namespace Go.TM
variable {P:Program} {X:XP} {Q:Leaf->LH->Prop}
variable {i j:Nat}{m:List Int}
theorem t_indexStr{h:LH}{K:Value->T}{t:TypeId}{s:ByteArray}(hu:P.underlying t=some .string)(d:s.size=256)(c:i<256)(a:∀ b:Nat,(K (.int .u8 (b:Int))).wp X P Q h):(T.sem false (Instr.index t (.string s) (.int .u8 (i:Int))) K).wp X P Q h:=by
 refine Jh (A:=fun w h'=>h'=h.get/\∃ b:Nat,w=.int .u8 (b:Int)) ?_ (by rintro w h' ⟨rfl,b,rfl⟩;exact a b);unfold Instr.index;simp only[asIntOf,lwp_bind,Qg,Qd hu];have h1:s[(i:Int).toNat]?=some (s[i]'(by omega)):=by
  rw[Int.toNat_natCast];exact getElem?_pos s i (by omega)
 rw[if_pos (by omega),h1];exact⟨rfl,_,rfl⟩
def Reads(cs:Array Value)(l:List Int):Prop:=∀ (i:Nat) y,l[i]?=some y->cs[i]?=some (.int .i64 y)
theorem swap_perm:∀ (m:List Int) (j:Nat) (x y:Int),m[j]?=some y->m[j+1]?=some x->((m.set (j+1) y).set j x).Perm m
 | [],j,x,y,h,_=>by simp at h
 | [a],j,x,y,_,h=>by simp at h
 | a::b::r,0,x,y,h1,h2=>by
  simp at h1 h2;subst h1;subst h2;simp only[List.set_cons_succ,List.set_cons_zero];exact List.Perm.swap _ _ _
 | a::b::r,j+1,x,y,h1,h2=>by
  simp only[List.set_cons_succ];exact(swap_perm (b::r) j x y (by simpa using h1) (by simpa using h2)).cons a
structure Ins(m:List Int)(i j:Nat):Prop where
 rest:∀ a b u v,a<b->b<=i->a≠j->b≠j->m[a]?=some u->m[b]?=some v->u<=v
 small:∀ b u v,j<b->b<=i->m[j]?=some u->m[b]?=some v->u<=v
theorem Ins.swap{x y:Int}(h:Ins m i (j+1))(p:j+1<=i)(k:m[j]?=some y)(g:m[j+1]?=some x)(o:x<y):Ins ((m.set (j+1) y).set j x) i j:=by
 have len:j+1<m.length:=(List.getElem?_eq_some_iff.1 g).1;have get:∀ a,((m.set (j+1) y).set j x)[a]?=if a=j then some x else if a=j+1 then some y else m[a]?:=by
  intro a;rw[List.getElem?_set,List.getElem?_set];by_cases e:a=j
  ·subst e;simp;omega
  ·by_cases c:a=j+1
   ·subst c;simp;omega
   ·rw[if_neg (Ne.symm e),if_neg (Ne.symm c),if_neg e,if_neg c]
 refine⟨fun a b u v f d l hb hu hv=>?_,fun b u v n d hu hv=>?_⟩
 ·rw[get,if_neg l]at hu;rw[get,if_neg hb]at hv;by_cases e:a=j+1
  ·rw[if_pos e]at hu;cases hu;rw[if_neg (by omega)]at hv;exact h.rest j b y v (by omega) d (by omega) (by omega) k hv
  ·rw[if_neg e]at hu;by_cases c:b=j+1
   ·rw[if_pos c]at hv;cases hv;exact h.rest a j u y (by omega) (by omega) (by omega) (by omega) hu k
   ·rw[if_neg c]at hv;exact h.rest a b u v f d e c hu hv
 ·rw[get,if_pos rfl]at hu;cases hu;rw[get,if_neg (by omega)]at hv;by_cases c:b=j+1
  ·rw[if_pos c]at hv;cases hv;omega
  ·rw[if_neg c]at hv;exact h.small b x v (by omega) d g hv
theorem Ins.done(h:Ins m i j)(k:j=0\/∃ x y,m[j-1]?=some y/\m[j]?=some x/\y<=x):∀ a b u v,a<b->b<=i->m[a]?=some u->m[b]?=some v->u<=v:=by
 intro a b u v c d hu hv;by_cases f:a=j
 ·subst f;exact h.small b u v c d hu hv
 ·by_cases g:b=j
  ·subst g;rcases k with h0|⟨x,y,h1,h2,h3⟩
   ·omega
   ·rw[hv]at h2;cases h2;by_cases e:a=b-1
    ·subst e;rw[hu]at h1;cases h1;exact h3
    ·exact Int.le_trans (h.rest a (b-1) u y (by omega) (by omega) f (by omega) hu h1) h3
  ·exact h.rest a b u v c d f g hu hv
theorem sorted_of{n:Nat}(e:m.length<=n)(h:∀ a b u v,a<b->b<n->m[a]?=some u->m[b]?=some v->u<=v):m.Pairwise (·<=·):=by
 rw[List.pairwise_iff_getElem];intro a b d hb c;exact h a b _ _ c (by omega) (List.getElem?_eq_getElem d) (List.getElem?_eq_getElem hb)
end Go.TM
namespace Go.Y.Tre
open Go.TM.Tr
attribute [local irreducible] T.wp CV FWK
variable {h:LH}{r c x:Nat}{el:TypeId}{cs:Array Value}{l:List Int}
theorem c2111(x y:Int):Pu Tryz.prog 237 #[x,y] h (.bool (decide (x<y))):=by
 refine w2111 Qr ?_;refine t_pu (c109 _) ?_;refine yF ?_;exact Qh ⟨rfl,rfl⟩
theorem c2105:∀ {cs:Array Value} {l:List Int},Reads cs l->l.length<=12 ->
  FW X0 Tryz.prog 231 #[.slice (some ⟨r,0,none⟩) l.length c,.int .i64 0,.int .i64 (l.length:Int)] { h with get:=h.get.upd r (true,.cells cs el (0,0)) } fun v h'=>v=.tuple #[] /\
   ∃ f V,f.size=cs.size/\Reads f V/\V.Perm l/\V.Pairwise (·<=·)/\h'={ h with get:=h.get.upd r (true,.cells f el (0,0)) }:=by
 intro cs l hr hl;have g:∀ {cs:Array Value} {m:List Int} {j:Nat} {y:Int},Reads cs m->m[j]?=some y->Cells.cell? (h.get.upd r (true,.cells cs el (0,0))) (Addr.add ⟨r,0,none⟩ ((j:Int).toNat*1))=some (.int .i64 y):=by
  intro cs m j y hm A;rw[Qa];have e:0+(j:Int).toNat*1=j:=by simp
  rw[e];exact Q6 (hm j y A)
 refine w2105 Qr ?_;have U:wrap .i64 ((0:Int)+1)=((1:Nat):Int):=by rw[Qm (by omega) (by omega)];rfl
 rw[U];refine Je (fun J vs h'=>∃ (i:Nat) (f:Array Value) (m:List Int),vs=[.int .i64 i]/\J=l.length+1-i/\1<=i/\i<=l.length+1/\h'={ h with get:=h.get.upd r (true,.cells f el (0,0)) }/\f.size=cs.size/\Reads f m/\m.Perm l/\∀ a b u v,a<b->b<i->m[a]?=some u->m[b]?=some v->u<=v)
  ⟨1,cs,l,rfl,rfl,Nat.le_refl _,by omega,rfl,rfl,hr,List.Perm.refl _,fun a b u v t hb=>by omega⟩ ?_
 rintro Y J vs _ hY ⟨i,H,Z,rfl,rfl,e0,g0,rfl,C,I,w,B⟩;refine yJ (fun e1=>?_) (fun e1=>?_)
 ·have P:=w.length_eq;refine Je (fun J vs h'=>∃ (j:Nat) (f:Array Value) (m:List Int),vs=[.int .i64 j]/\j=J/\j<=i/\h'={ h with get:=h.get.upd r (true,.cells f el (0,0)) }/\f.size=cs.size/\Reads f m/\m.Perm l/\Ins m i j)
   ⟨i,H,Z,rfl,rfl,Nat.le_refl _,rfl,C,I,w,fun a b u v t a0 ha hb hu hv=>B a b u v t (by omega) hu hv,fun b u v h1 h2=>by omega⟩ ?_
  rintro Y2 J vs _ N ⟨j,s,q,rfl,rfl,hj,rfl,D,k,G,p⟩;have Q:=G.length_eq;have fin:(∀ a b u v,a<b->b<=i->q[a]?=some u->q[b]?=some v->u<=v)->Y [.int .i64 (wrap .i64 ((i:Int)+1))] { h with get:=h.get.upd r (true,.cells s el (0,0)) }:=by
   intro S;refine hY (l.length+1-(i+1)) _ _ (by omega) ⟨i+1,s,q,?_,rfl,by omega,by omega,rfl,D,k,G,fun a b u v t hb=>S a b u v t (by omega)⟩;rw[Qm (by omega) (by omega)];rfl
  refine gZ ?_;refine Ja (fun vs h'=>vs=[]/\h'={ h with get:=h.get.upd r (true,.cells s el (0,0)) }/\∃ (d:Nat) (x y:Int),j=d+1/\q[d]?=some y/\q[d+1]?=some x/\x<y) ?_ ?_
  ·refine t_if (fun e2=>?_) (fun e2=>?_)
   ·obtain⟨d,rfl⟩ : ∃ d,j=d+1:=⟨j-1,by omega⟩
    obtain⟨y,A⟩ : ∃ y,q[d]?=some y:=⟨q[d]'(by omega),List.getElem?_eq_getElem (by omega)⟩
    obtain⟨x,E⟩ : ∃ x,q[d+1]?=some x:=⟨q[d+1]'(by omega),List.getElem?_eq_getElem (by omega)⟩
    have hw:wrap .i64 (((d+1:Nat):Int)-1)=(d:Int):=by rw[Qm (by omega) (by omega)];omega
    rw[hw];have W:=g k E;have X:=g k A;refine gT (by omega) (gS2 rfl (gL0 W (gT (by omega) (gS2 rfl (gL0 X ?_)))));refine t_pu (c2111 _ _) ?_;refine yI (fun K=>?_) (fun K=>?_)
    ·exact Qj ⟨rfl,rfl,d,x,y,rfl,A,E,by simpa using K⟩
    ·refine gR ?_;refine yT ?_;refine gZ ?_;have K:¬ x<y:=by simpa using K
     exact Qj (fin (p.done (.inr ⟨x,y,by simpa using A,E,by omega⟩)))
   ·refine yT ?_;refine gZ ?_;exact Qj (fin (p.done (.inl (by omega))))
  ·rintro vs _ ⟨rfl,rfl,d,x,y,rfl,A,E,R⟩;have hw:wrap .i64 (((d+1:Nat):Int)-1)=(d:Int):=by rw[Qm (by omega) (by omega)];omega
   have W:=g k E;have X:=g k A;have O:d+1<s.size:=(Array.getElem?_eq_some_iff.1 (k _ _ E)).1;rw[hw];refine gZ ?_;refine D6 (o:=d+1) (by rw[Qa,Qa];simp) rfl O ?_;refine gZ ?_;refine D6 (o:=d) (by rw[Qa,Qa];simp) rfl (by simp;omega) ?_;refine Qj (N d _ _ (by omega) ⟨d,_,(q.set (d+1) y).set d x,rfl,rfl,by omega,rfl,by simp[D],?_,(swap_perm q d x y A E).trans G,p.swap (by omega) A E R⟩);intro a z F;rw[List.getElem?_set,List.getElem?_set]at F;by_cases L:a=d
   ·subst L;rw[Array.getElem?_setIfInBounds_self_of_lt (by simp;omega)];simp at F;rw[F.2]
   ·rw[Array.getElem?_setIfInBounds_ne (Ne.symm L)];rw[if_neg (Ne.symm L)]at F;by_cases M:a=d+1
    ·subst M;rw[Array.getElem?_setIfInBounds_self_of_lt (by omega)];simp at F;rw[F.2]
    ·rw[Array.getElem?_setIfInBounds_ne (Ne.symm M)];rw[if_neg (Ne.symm M)]at F;exact k a z F
 ·refine gZ ?_;refine Qh ⟨rfl,H,Z,C,I,w,sorted_of (n:=i) (by rw[w.length_eq];omega) B,rfl⟩
theorem c2101(hr:Reads cs l)(g:l.length<=12)(b:Int) :
  FW X0 Tryz.prog 217 #[.slice (some ⟨r,0,none⟩) l.length c,.int .i64 0,.int .i64 (l.length:Int),b] { h with get:=h.get.upd r (true,.cells cs el (0,0)) } fun v h'=>v=.tuple #[] /\
   ∃ a d,a.size=cs.size/\Reads a d/\d.Perm l/\d.Pairwise (·<=·)/\h'={ h with get:=h.get.upd r (true,.cells a el (0,0)) }:=by
 refine w2101 Qr ?_;refine Je (fun f vs h'=>f=0/\vs=[.int .i64 0,.int .i64 (l.length:Int),.int .i64 b,.bool true,.bool true]/\h'={ h with get:=h.get.upd r (true,.cells cs el (0,0)) }) ⟨rfl,rfl,rfl⟩ ?_;rintro Y f vs _ j ⟨rfl,rfl,rfl⟩;refine gZ ?_;have hw:wrap .i64 ((l.length:Int)-0)=(l.length:Int):=by rw[Qm (by omega) (by omega)];omega
 rw[hw];refine t_if (fun e=>?_) (fun e=>absurd (by omega) e);refine Jp (c2105 hr g) ?_;rintro _ h2 ⟨rfl,i⟩;refine gZ ?_;exact Qh ⟨rfl,i⟩
theorem c2115(c:x<256):FW X0 Tryz.prog 220 #[.int .u64 (x:Int)] h fun v h'=>h'=h/\∃ z,v=.int .i64 z:=by
 refine w2115 _ Qr ?_;unfold n2115;refine Ja (fun vs h'=>vs=[.int .u64 (x:Int),.int .i64 0]/\h=h') ?_ ?_
 ·refine t_if (fun e=>by omega) (fun e=>?_);exact Qj ⟨rfl,rfl⟩
 rintro vs _ ⟨rfl,rfl⟩;refine gZ ?_;refine Ja (fun vs h'=>vs=[.int .u64 (x:Int),.int .i64 0]/\h=h') ?_ ?_
 ·refine t_if (fun e=>by omega) (fun e=>?_);exact Qj ⟨rfl,rfl⟩
 rintro vs _ ⟨rfl,rfl⟩;refine gZ ?_;refine t_if (fun e=>by omega) (fun e=>?_);have hw:IntKind.wrap .u8 (x:Int)=(x:Int):=by
  have a:(2^IntKind.u8.bits:Int)=256:=rfl;simp only[IntKind.wrap,a,show IntKind.u8.signed=false from rfl,Bool.false_and,Bool.false_eq_true,if_false];omega
 rw[hw];refine t_indexStr (by kernel_rfl) (by kernel_rfl) c fun b=>?_;refine gZ ?_;exact Qh ⟨rfl,_,rfl⟩
theorem c2102(a:x<256):FW X0 Tryz.prog 218 #[.int .u64 (x:Int)] h fun v h'=>h'=h/\∃ z,v=.int .i64 z:=by
 refine w2102 Qr ?_;refine Jp (c2115 a) ?_;rintro _ _ ⟨rfl,z,rfl⟩;refine gZ ?_;exact Qh ⟨rfl,_,rfl⟩
theorem c2092(hr:Reads cs l)(e:l.length<=12) :
  FW X0 Tryz.prog 191 #[.slice (some ⟨r,0,none⟩) l.length c] { h with get:=h.get.upd r (true,.cells cs el (0,0)) } fun v h'=>v=.tuple #[] /\
   ∃ a b,a.size=cs.size/\Reads a b/\b.Perm l/\b.Pairwise (·<=·)/\h'={ h with get:=h.get.upd r (true,.cells a el (0,0)) }:=by
 refine w2092 Qr ?_;have hw:IntKind.wrap .u64 (l.length:Int)=(l.length:Int):=by
  have d:(2^IntKind.u64.bits:Int)=18446744073709551616:=rfl;simp only[IntKind.wrap,d,show IntKind.u64.signed=false from rfl,Bool.false_and,Bool.false_eq_true,if_false];omega
 rw[hw];refine Jp (c2102 (by omega)) ?_;rintro _ _ ⟨rfl,z,rfl⟩;refine gZ ?_;refine Jp (c2101 hr e z) ?_;rintro _ h2 ⟨rfl,f⟩;refine gZ ?_;exact Qh ⟨rfl,f⟩
end Go.Y.Tre
end
section
namespace Go.TM
variable {P:Program} {X:XP} {Q:Leaf->LH->Prop}
inductive Chain{S:Type}(nx:S->List Value->S->Prop)(s₀:S):List Int->S->Prop
 | nil:Chain nx s₀ [] s₀
 | snoc {l:List Int} {s s':S} {v:Int}:Chain nx s₀ l s->nx s [.int .i64 v] s'->Chain nx s₀ (l++[v]) s'
variable {es:Array MapEntry}{c:Nat}{l acc:List Int}
theorem chain_keys(k:Keys es c l){seen:Array Nat}(h:Chain (NextKey es) #[] acc seen) :
  ∃ E:List MapEntry,(∀ e∈E,e∈es.toList)/\acc.map (Value.int .i64)=E.map (·.key)/\seen.toList=E.map (·.born)/\(E.map (·.born)).Nodup:=by
 induction h with
 | nil=>exact⟨[],by simp,rfl,rfl,List.nodup_nil⟩
 | snoc h m n =>
  obtain⟨E,h1,h2,h3,j⟩:=n;obtain⟨e,he,hb,g,rfl⟩:=m;refine⟨E++[e],fun a d=>?_,?_,?_,?_⟩
  ·rcases List.mem_append.1 d with d|d
   ·exact h1 a d
   ·simp at d;subst d;exact he
  ·simp only[List.cons.injEq,and_true]at g;rw[List.map_append,List.map_append,h2];simp[g]
  ·simp[h3]
  ·rw[List.map_append];refine List.nodup_append.2 ⟨j,by simp,fun a d b f i=>?_⟩;simp at f;subst f;subst i;rw[h3]at hb;exact hb d
theorem nodup_key(k:Keys es c l):∀ e∈es.toList,∀ d∈es.toList,e.key=d.key->e.born=d.born:=by
 have n:(es.toList.map (·.key)).Nodup:=by
  rw[k.keys];rw[List.nodup_iff_pairwise_ne,List.pairwise_map];exact(List.nodup_iff_pairwise_ne.1 k.nodup).imp fun g he=>g (by cases he;rfl)
 intro e he d f heq;obtain⟨i,h,b⟩:=List.getElem_of_mem he;obtain⟨j,m,a⟩:=List.getElem_of_mem f;have:=(List.getElem_inj (xs:=es.toList.map (·.key)) (i:=i) (j:=j) (h₀:=by simpa using h) (h₁:=by simpa using m) n).1 (by simp[b,a,heq]);subst this;rw[b]at a;rw[a]
theorem chain_done(k:Keys es c l){seen:Array Nat}(h:Chain (NextKey es) #[] acc seen)(s:AllSeen es seen):acc.Nodup/\∀ v,v∈acc↔v∈l:=by
 obtain⟨E,h1,h2,h3,p⟩:=chain_keys k h;refine⟨?_,fun v=>?_⟩
 ·have h5:(acc.map (Value.int .i64)).Nodup:=by
   rw[h2,List.nodup_iff_pairwise_ne,List.pairwise_map];rw[List.nodup_iff_pairwise_ne,List.pairwise_map]at p;exact(List.Pairwise.and_mem.1 p).imp fun ⟨r,hb,a⟩ n=>a (nodup_key k _ (h1 _ r) _ (h1 _ hb) n)
  rw[List.nodup_iff_pairwise_ne,List.pairwise_map]at h5;rw[List.nodup_iff_pairwise_ne];exact h5.imp fun a e=>a (by rw[e])
 ·constructor
  ·intro hv;have:Value.int .i64 v∈acc.map (Value.int .i64):=List.mem_map.2 ⟨v,hv,rfl⟩;rw[h2]at this;obtain⟨e,he,n⟩:=List.mem_map.1 this;have d:e.key∈es.toList.map (·.key):=List.mem_map.2 ⟨e,h1 e he,rfl⟩;rw[k.keys,n]at d;obtain⟨w,hw,b⟩:=List.mem_map.1 d;cases b;exact hw
  ·intro hv;have:Value.int .i64 v∈l.map (Value.int .i64):=List.mem_map.2 ⟨v,hv,rfl⟩;rw[<- k.keys]at this;obtain⟨e,he,n⟩:=List.mem_map.1 this;have d:=s e he;rw[h3]at d;obtain⟨b,f,hb⟩:=List.mem_map.1 d;have o:b=e:=by
    obtain⟨i,t,g⟩:=List.getElem_of_mem (h1 b f);obtain⟨j,u,m⟩:=List.getElem_of_mem he;have:=(List.getElem_inj (xs:=es.toList.map (·.born)) (i:=i) (j:=j) (h₀:=by simpa using t) (h₁:=by simpa using u) k.born).1 (by simp[g,m,hb]);subst this;rw[<- g,<- m]
   subst o;have:b.key∈E.map (·.key):=List.mem_map.2 ⟨b,f,rfl⟩;rw[<- h2,n]at this;obtain⟨w,hw,q⟩:=List.mem_map.1 this;cases q;exact hw
def toCome(es:Array MapEntry)(seen:Array Nat):Nat:=(es.toList.filter fun e=>!seen.toList.contains e.born).length
theorem filter_less{α:Type}{p q:α->Bool}:∀ {l:List α},(∀ x∈l,q x=true->p x=true)->(∃ x∈l,p x=true/\q x=false)->(l.filter q).length<(l.filter p).length
 | [],_,⟨x,c,_⟩=>by simp at c
 | a::l,h1,⟨x,c,h2,h3⟩=>by
  have hle:∀ (l:List α),(∀ x∈l,q x=true->p x=true)->(l.filter q).length<=(l.filter p).length:=by
   intro l
   induction l with
   | nil=>intro _;simp
   | cons b l e =>
    intro h;have:=e fun x c=>h x (by simp[c]);rw[List.filter_cons,List.filter_cons];cases hb:q b with
    | true=>rw[h b (by simp) hb];simpa using this
    | false=>cases p b<;>simp<;>omega
  rw[List.filter_cons,List.filter_cons];rcases List.mem_cons.1 c with rfl|c
  ·rw[h2,h3];have:=hle l fun x c=>h1 x (by simp[c]);simp;omega
  ·have:=filter_less (l:=l) (fun y d=>h1 y (by simp[d])) ⟨x,c,h2,h3⟩;cases hb:q a with
   | true=>rw[h1 a (by simp) hb];simpa using this
   | false=>cases p a<;>simp<;>omega
theorem toCome_less{seen:Array Nat}{xs:List Value}{a:Array Nat}(h:NextKey es seen xs a):toCome es a<toCome es seen:=by
 obtain⟨e,he,hb,_,rfl⟩:=h;refine filter_less (fun x _ b=>?_) ⟨e,he,?_,?_⟩
 ·simp at b ⊢;exact b.1
 ·simpa using hb
 ·simp
end Go.TM
namespace Go.Y.Tre
open Go.TM.Tr
attribute [local irreducible] T.wp CV FWK
variable {h:LH}{m c:Nat}{es:Array MapEntry}{b:Bool}{l:List Int}{seq:Value}
theorem c2081(m:Nat):Gr Tryz.prog 163 #[.map (some m)] h fun r h'=>∃ a,r=.func (.func 192) #[] #[.pointer (some a)]/\h'.get.cell? a=some (.map (some m)):=by
 refine w2081 Qr ?_;refine Kg fun r hr=>?_;exact Qh ⟨Q1 hr,_,rfl,Q6 rfl⟩
theorem hands2093{X:XP}(z:XOK X){h₀:LH}{G:Addr}(P:h₀.get.cell? G=some (.map (some m)))(hm:h₀.get m=some (b,.map es c))(k:Keys es c l) :
  HandsG X Tryz.prog (.func (.func 192) #[] #[.pointer (some G)]) h₀ (NextKey es) (AllSeen es) #[]:=by
 intro y J E M L g h hle v;refine H2 z (by rfl) (?_:FW X Tryz.prog 192 #[y,.pointer (some G)] h _);refine w2093 z ?_;have F:=Qo hle.1 P;refine gL4 F ?_;refine t_range undMap (hle.1 _ _ hm) fun r hr=>?_;refine gZ ?_;have D:({ h with get:=h.get.upd r (true,.mapIter (some m) c #[] c) }:LH)={ h with get:=h.get.add (oneC r (.mapIter (some m) c #[] c)) }:=by
  have:h.get.upd r (true,.mapIter (some m) c #[] c)=h.get.add (oneC r (.mapIter (some m) c #[] c)):=by
   funext a;unfold Cells.upd Cells.add oneC;by_cases e:a=r
   ·subst e;simp[hr]
   ·simp[e];cases h.get a<;>rfl
  rw[this]
 rw[D];refine Je (fun K vs h'=>∃ (seen:Array Nat) (hb:LH),vs=[]/\K=toCome es seen/\h'={ hb with get:=hb.get.add (oneC r (.mapIter (some m) c seen c)) }/\Disj hb.get (oneC r (.mapIter (some m) c seen c))/\h₀.le hb/\J seen hb)
  ⟨#[],h,rfl,rfl,rfl,J5 hr,hle,v⟩ ?_
 rintro Y K vs _ N ⟨seen,hb,rfl,rfl,rfl,H,d,j⟩;have f:=Jx H;refine gZ ?_;refine t_next (m:=m) (r:=r) (c:=c) (es:=es) (seen:=seen) (b:=b) (Jm f) (Qi (d.1 _ _ hm)) k.lt (fun o=>?_) fun e he C=>?_
 ·refine yF ?_;refine gZ ?_;refine Qh ⟨⟨fun a x A=>Qi (d.1 a x A),d.2⟩,.inl ⟨seen,o,?_⟩⟩;exact M seen hb _ j H
 ·rw[Zk f];have t:Disj hb.get (oneC r (.mapIter (some m) c (seen.push e.born) c)):=J5 f;refine yT ?_;refine gZ ?_;refine t_entry (m:=m) (r:=r) (c:=c) (es:=es) (seen:=seen) (e:=e) (b:=b) (Jm f) (Qi (d.1 _ _ hm)) he k.born ?_;obtain⟨I,p⟩ : ∃ n:Int,e.key=.int .i64 n:=by
   have q:e.key∈es.toList.map (·.key):=List.mem_map.2 ⟨e,he,rfl⟩;rw[k.keys]at q;obtain⟨n,_,O⟩:=List.mem_map.1 q;exact⟨n,O.symm⟩
  rw[p];refine gZ ?_;have s:NextKey es seen [.int .i64 I] (seen.push e.born):=⟨e,he,C,by rw[p],rfl⟩
  have B:=CV.frame z (g seen hb [.int .i64 I] (seen.push e.born) d s j) t;refine J9 B ?_;rintro bv _ ⟨h3,d3,rfl,i,⟨rfl,w⟩|⟨rfl,u⟩⟩
  ·refine yF ?_;exact Qj (N _ _ _ (toCome_less s) ⟨_,h3,rfl,rfl,rfl,d3,i,w⟩)
  ·refine yT ?_;refine gZ ?_;exact Qh ⟨⟨fun a x A=>Qi (i.1 a x A),i.2⟩,.inr (L h3 _ u d3)⟩
theorem c2100{S:Type}{nx:S->List Value->S->Prop}{fin:S->Prop}{a:S}(μ:S->Nat)(e:∀ s xs d,nx s xs d->μ d<μ s)(hint:∀ s xs d,nx s xs d->∃ v,xs=[.int .i64 v])(hm:μ a<=1000)(k:HandsG X0 Tryz.prog seq h nx fin a) :
  Gr Tryz.prog 216 #[.slice none 0 0,seq] h fun r h'=>∃ p n c s acc,fin s/\Chain nx a acc s/\r=.slice p n c/\acc.length<=μ a/\Growing IntEnc 3 1 h.get h'.get p n c acc:=by
 refine w2100 Qr ?_;refine t_eachG μ e (LH.le_refl h) k (fun s vs h'=>∃ p n c acc,vs=[.slice p n c]/\Chain nx a acc s/\acc.length+μ s<=μ a/\Growing IntEnc 3 1 h.get h'.get p n c acc)
  ⟨none,0,0,[],rfl,.nil,by simp,Growing.nil⟩ ?_ ?_
 ·rintro s vs h' m hle ⟨p,n,c,acc,rfl,b,hlen,g⟩;refine gZ ?_;exact Qh ⟨hle,p,n,c,s,acc,m,b,rfl,by omega,g⟩
 ·rintro s xs d vs h' i hle ⟨p,n,c,acc,rfl,b,hlen,g⟩ Y l;obtain⟨v,rfl⟩:=hint s xs d i;have o:=e _ _ _ i;have q:=g.count IntEnc.len (by omega);refine gZ ?_;refine G9 v [.int .i64 v] rfl rfl und50 inf3 rfl (by omega) (by decide) (by kernel_rfl) rfl (by simp;rfl) (by omega) g hle rfl ?_;intro t c' h3 f _ j;refine gZ ?_;exact Ju f (l _ _ f ⟨t,n+1,c',acc++[v],rfl,b.snoc i,by simp;omega,j⟩)
theorem c2091{S:Type}{nx:S->List Value->S->Prop}{fin:S->Prop}{a:S}(μ:S->Nat)(d:∀ s xs b,nx s xs b->μ b<μ s)(hint:∀ s xs b,nx s xs b->∃ v,xs=[.int .i64 v])(hm:μ a<=1000)(g:HandsG X0 Tryz.prog seq h nx fin a) :
  Gr Tryz.prog 190 #[seq] h fun r h'=>∃ p n c s acc,fin s/\Chain nx a acc s/\r=.slice p n c/\acc.length<=μ a/\Growing IntEnc 3 1 h.get h'.get p n c acc:=by
 refine w2091 Qr ?_;refine t_gr (c2100 μ d hint hm g) ?_;rintro _ h1 e ⟨p,n,c,s,acc,h2,h3,rfl,f,h5⟩;refine gZ ?_;exact Qh ⟨e,p,n,c,s,acc,h2,h3,rfl,f,h5⟩
theorem rows_reads{vs:List Value}(r:Go.TM.Rows IntEnc vs l):vs=l.map (Value.int .i64):=by
 induction r with
 | nil=>rfl
 | snoc r he a=>rw[he,a];simp
theorem grown{h₀ h:Cells}{p:Option Addr}{n:Nat}(g:Growing IntEnc 3 1 h₀ h p n c l)(u:l≠[]):∃ r cs,p=some ⟨r,0,none⟩/\h=h.upd r (true,.cells cs 3 (0,0))/\h₀ r=none/\n=l.length/\n<=c/\cs.size=c*1/\Reads cs l /\
  ∀ d f,d.size=cs.size->Reads d f->f.length=l.length->Growing IntEnc 3 1 h₀ (h.upd r (true,.cells d 3 (0,0))) p n c f:=by
 have A:=g.count IntEnc.len (by omega);obtain⟨vs,⟨h1,h2⟩,h3⟩:=g.row;have z:=rows_reads h3;rcases h2 with⟨_,h2,_⟩|⟨r,cs,rfl,hr,m,s,hv⟩
 ·exfalso;apply u;exact List.eq_nil_of_length_eq_zero (by omega)
 ·refine⟨r,cs,rfl,?_,g.new _ rfl,A,s,m,?_,?_⟩
  ·funext a;unfold Cells.upd;by_cases e:a=r
   ·subst e;simp[hr]
   ·simp[e]
  ·intro i y t;refine hv i _ ?_;rw[z,List.getElem?_map,t];rfl
  ·intro d f x w hlen;have rows:∀ l:List Int,Go.TM.Rows IntEnc (l.map (Value.int .i64)) l:=by
    intro l;have:∀ (k:Nat) (l:List Int),l.length=k->Go.TM.Rows IntEnc (l.map (Value.int .i64)) l:=by
     intro k
     induction k with
     | zero=>intro l q;rw[List.eq_nil_of_length_eq_zero q];exact .nil
     | succ k B =>
      intro l q;obtain⟨a,b,rfl⟩ : ∃ a b,l=a++[b]:=⟨l.dropLast,l.getLast (by intro e;subst e;simp at q),(List.dropLast_concat_getLast _).symm⟩
      rw[List.map_append];exact Go.TM.Rows.snoc (B a (by simp at q;exact q)) rfl
    exact this _ l rfl
   refine⟨⟨f.map (Value.int .i64),⟨by rw[List.length_map];omega,.inr ⟨r,d,rfl,Qn _ _ _,by rw[x];exact m,s,fun j v o=>?_⟩⟩,rows f⟩,g.new⟩;rw[List.getElem?_map]at o;cases t:f[j]? with
   | none=>rw[t]at o;cases o
   | some y=>rw[t]at o;cases o;exact w j y t
theorem c2059(hm:h.get m=some (b,.map es c))(k:Keys es c l)(D:l≠[])(W:l.length<=12) :
  Gr Tryz.prog 114 #[.map (some m)] h fun r h'=>∃ p n c acc,r=.slice p n c/\Sl IntE 1 h'.get p n acc/\n<=c/\acc.Pairwise (·<·)/\∀ v,v∈acc↔v∈l:=by
 refine w2059 Qr ?_;refine t_gr (c2081 m) ?_;rintro _ h1 w ⟨S,rfl,Q⟩;have hlen:es.toList.length=l.length:=by
  have:=congrArg List.length k.keys;simpa using this
 have hu:toCome es #[]<=12:=by
  unfold toCome;have:=List.length_filter_le (fun e:MapEntry=>!(#[]:Array Nat).toList.contains e.born) es.toList;omega
 have sorted:Gr Tryz.prog 162 #[.func (.func 192) #[] #[.pointer (some S)]] h1 fun r h'=>∃ p n c acc,r=.slice p n c/\Sl IntE 1 h'.get p n acc/\n<=c/\acc.Pairwise (·<·)/\∀ v,v∈acc↔v∈l:=by
  refine w2080 Qr ?_;refine t_gr (c2091 (toCome es) (fun s xs R h=>toCome_less h) ?_ (by omega) (hands2093 Qr Q (w.1 _ _ hm) k)) ?_
  ·rintro s xs R ⟨e,he,_,rfl,_⟩;have:e.key∈es.toList.map (·.key):=List.mem_map.2 ⟨e,he,rfl⟩;rw[k.keys]at this;obtain⟨v,_,hv⟩:=List.mem_map.1 this;exact⟨v,by rw[hv]⟩
  ·rintro _ h2 f ⟨p,n,c,s,acc,P,A,rfl,N,g⟩;obtain⟨C,i⟩:=chain_done k A P;have q:acc≠[]:=by
    rintro rfl;apply D;exact List.eq_nil_iff_forall_not_mem.2 fun v hv=>by simpa using (i v).2 hv
   obtain⟨r,cs,rfl,J,E,rfl,B,O,F,o⟩:=grown g q;refine gZ ?_;have H:h2={ h2 with get:=h2.get.upd r (true,.cells cs 3 (0,0)) }:=by
    obtain⟨V,U,b2,d2⟩:=h2;simp only[LH.mk.injEq,and_self,and_true];exact J
   rw[H];refine Jp (c2092 F (by omega)) ?_;rintro _ _ ⟨rfl,y,K,I,u,d,G,rfl⟩;refine gZ ?_;have g':=o y K I u d.length_eq;refine Qh ⟨?_,_,_,c,K,rfl,g'.sl IntEnc.len (by omega) IntEnc.e (by rw[d.length_eq];omega),B,?_,fun v=>by rw[d.mem_iff,i]⟩
   ·refine⟨fun a x z=>?_,f.2⟩;have t:a≠r:=by rintro rfl;rw[E]at z;cases z
    show Cells.upd _ _ _ a=_;rw[Qp _ _ t];exact f.1 a x z
   ·have j:K.Nodup:=d.nodup_iff.2 C;rw[List.nodup_iff_pairwise_ne]at j;exact(G.and j).imp fun ⟨h1,h2⟩=>by omega
 refine t_gr sorted ?_;rintro _ h2 f ⟨p,n,c',acc,rfl,h3,L,h5,M⟩;refine gZ ?_;exact Qh ⟨LH.le_trans w f,p,n,c',acc,rfl,h3,L,h5,M⟩
end Go.Y.Tre
end
section
namespace Go.TM
theorem Us:∀ {l m:List Int},l.Nodup->(∀ v∈l,v∈m)->l.length<=m.length
 | [],m,_,_=>Nat.zero_le _
 | a::l,m,e,d=>by
  have c:=d a (by simp);have b:=List.nodup_cons.1 e;have:=Us (l:=l) (m:=m.erase a) b.2 fun v hv=>by
   rw[List.mem_erase_of_ne]
   ·exact d v (by simp[hv])
   ·rintro rfl;exact b.1 hv
  have h2:=List.length_erase_of_mem c;have h3:=List.length_pos_of_mem c;simp only[List.length_cons];omega
def SpE(h:Cells)(a:Addr)(s:Tr.Sp):Prop:=h.cell? (a.add 0)=some (.int .i64 s.first)/\h.cell? (a.add 1)=some (.int .i64 s.last)
def SpEnc(s:Tr.Sp)(ws:List Value):Prop:=ws=[.int .i64 s.first,.int .i64 s.last]
theorem SpE.grow:Grow SpE:=fun _ _ _ _ a h=>⟨a _ _ h.1,a _ _ h.2⟩
theorem SpEnc.len:∀ d ws,SpEnc d ws->ws.length=2:=by rintro d _ rfl;rfl
theorem SpEnc.e{h':Cells}:∀ a d ws,SpEnc d ws->(∀ (j:Nat) w,ws[j]?=some w->h'.cell? (a.add j)=some w)->SpE h' a d:=by
 rintro a d _ rfl hc;exact⟨hc 0 _ rfl,hc 1 _ rfl⟩
theorem Rows.last{α:Type}{Enc:α->List Value->Prop}{vs:List Value}{l:List α}{x:α}(r:Rows Enc vs (l++[x])):∃ us ws,vs=us++ws/\Rows Enc us l/\Enc x ws:=by
 generalize he:l++[x]=m at r;cases r with
 | nil=>simp at he
 | snoc r a =>
  rename_i us b y ws;have:=List.append_inj' he rfl;obtain⟨rfl,h2⟩:=this;simp at h2;subst h2;exact⟨us,ws,rfl,r,a⟩
theorem Growing.lastSp{el:TypeId}{h₀ h:Cells}{p:Option Addr}{n c:Nat}{out:List Tr.Sp}{s:Tr.Sp}(g:Growing SpEnc el 2 h₀ h p n c (out++[s])) :
  ∃ r cs,p=some ⟨r,0,none⟩/\h r=some (true,.cells cs el (0,0))/\h₀ r=none/\n=out.length+1/\2*out.length+1<cs.size/\cs[2*out.length+1]?=some (.int .i64 s.last) /\
   ∀ v:Int,Growing SpEnc el 2 h₀ (h.upd r (true,.cells (cs.setIfInBounds (2*out.length+1) (.int .i64 v)) el (0,0))) p n c (out++[⟨s.first,v⟩]):=by
 have l:=g.count SpEnc.len (by omega);obtain⟨vs,⟨h1,h2⟩,h3⟩:=g.row;obtain⟨us,ws,rfl,k,rfl⟩:=h3.last;have i:=k.len SpEnc.len;rcases h2 with⟨_,h2,_⟩|⟨r,cs,rfl,hr,d,f,hv⟩
 ·simp at l;omega
 ·have b:n=out.length+1:=by simpa using l
  have hc1:cs[2*out.length+1]?=some (.int .i64 s.last):=by
   refine hv _ _ ?_;rw[List.getElem?_append_right (by omega)];rw[show 2*out.length+1-us.length=1 by omega];rfl
  refine⟨r,cs,rfl,hr,g.new _ rfl,b,(Array.getElem?_eq_some_iff.1 hc1).1,hc1,fun v=>?_⟩;refine⟨⟨us++[.int .i64 s.first,.int .i64 v],⟨by rw[List.length_append,i,b];simp;omega,.inr ⟨r,_,rfl,Qn _ _ _,by simp;exact d,f,fun j w a=>?_⟩⟩,Rows.snoc (x:=(⟨s.first,v⟩ : Tr.Sp)) (ws:=[.int .i64 s.first,.int .i64 v]) k rfl⟩,g.new⟩;by_cases e:j=2*out.length+1
  ·subst e;rw[Array.getElem?_setIfInBounds_self_of_lt (Array.getElem?_eq_some_iff.1 hc1).1];rw[List.getElem?_append_right (by omega),show 2*out.length+1-us.length=1 by omega]at a;exact a
  ·rw[Array.getElem?_setIfInBounds_ne (Ne.symm e)];refine hv j w ?_;by_cases m:j<us.length
   ·rw[List.getElem?_append_left m]at a ⊢;exact a
   ·rw[List.getElem?_append_right (by omega)]at a ⊢
    match o:j-us.length,a with
    | 0,a=>exact a
    | 1,a=>omega
    | q+2,a=>simp at a
end Go.TM
namespace Go.Y.Tre
open Go.TM.Tr
attribute [local irreducible] T.wp CV FWK
def SpansR(h:Cells)(x:TF)(k i:Int)(r:Value):Prop :=
 (Q9 x k i≠0/\r=.tuple #[.slice none 0 0,.int .i64 (Q9 x k i)]) \/
 (Q9 x k i=0/\∃ p n c l,r=.tuple #[.slice p n c,.int .i64 0]/\IsDays x l/\Sl SpE 2 h p n (spansT x k i l)/\n<=c)
theorem join_none{d e:Int}:join [] d e=[⟨d,e-1⟩]:=rfl
theorem join_last{out:List Sp}{s:Sp}{d e:Int}:join (out++[s]) d e=if s.last=d-1 then out++[⟨s.first,e-1⟩] else (out++[s])++[⟨d,e-1⟩]:=by
 unfold join;simp
theorem c2023{h:LH}(hk:Kinds h.get){f:TC}{x:TF}(hx:TreatyR h.get f x)(k i:Int):Gr Tryz.prog 59 #[treatyV f x,.int .i64 k,.int .i64 i] h fun r h'=>SpansR h'.get x k i r:=by
 refine w2023 Qr ?_;refine t_pu (c2058 hk hx k i) ?_;refine yI (fun e=>?_) (fun e=>?_)
 ·exact Qh ⟨LH.le_refl _,.inl ⟨by simpa using e,rfl⟩⟩
 have e0:Q9 x k i=0:=by simpa using e
 have n1:=(G5 (askedItem_ok e0).1).1;have rt:=Right.of n1;have j2:=rt.many;have hn:=hx.2.1;refine t_makeMap fun m y1=>?_;have G:∀ {h':LH} {o:Obj},h.le h'->h.le { h' with get:=h'.get.upd m (true,o) }:=by
  intro h' o hl;refine⟨fun a y U=>?_,hl.2⟩;have:a≠m:=by rintro rfl;rw[y1]at U;cases U
  show Cells.upd _ _ _ a=_;rw[Qp _ _ this];exact hl.1 a y U
 refine gZ ?_;refine Yf (l:=[]) undMap i64_3 ⟨#[],0,Qn _ _ _,Keys.nil⟩ fun V c1 l1 z1 k1 p1=>?_;refine Yf (l:=l1) undMap i64_3 ⟨V,c1,z1,k1⟩ fun W c2 l2 b2 k2 q1=>?_;have y2:=G (o:=.map W c2) (G (o:=.map V c1) (G (o:=.map #[] 0) (LH.le_refl h)));refine Je (fun mm vs h'=>h.le h'/\∃ (j:Nat) (es:Array MapEntry) (c:Nat) (l:List Int),vs=[.int .i64 j]/\j<=f.n/\mm=f.n-j/\h'.get m=some (true,.map es c)/\Keys es c l/\∀ v,v∈l↔v=0\/v=10000\/∃ e∈x.events.take j,e.day=v)
  ⟨y2,0,W,c2,l2,rfl,Nat.zero_le _,rfl,b2,k2,fun v=>by rw[q1,p1];simp;omega⟩ ?_
 rintro Y mm vs h3 hY ⟨N,j,es,c,l,rfl,hj,rfl,o0,k3,z⟩;refine yJ (fun e1=>?_) (fun e1=>?_)
 ·obtain⟨e,a,he,U,g0,g1,g2,⟨q,O,cq,g3,g6,g5⟩,g4⟩:=(hx.2.le EventE.grow N.1).at (i:=j) (by omega);refine gZ ?_;refine Yf (l:=l) undMap i64_3 ⟨es,c,o0,k3⟩ fun j1 c' l' x1 k' o1=>?_;refine Qj (hY (f.n-(j+1)) _ _ (by omega) ⟨G N,j+1,j1,c',l',?_,by omega,rfl,x1,k',fun v=>?_⟩)
  ·rw[Qm (by omega) (by omega)];rfl
  ·rw[o1,z,List.take_add_one,he];simp only[List.mem_append,Option.toList,List.mem_singleton];constructor
   ·rintro(rfl|h1|h1|⟨e',h1,h2⟩)
    ·exact .inr (.inr ⟨e,.inr rfl,rfl⟩)
    ·exact .inl h1
    ·exact .inr (.inl h1)
    ·exact .inr (.inr ⟨e',.inl h1,h2⟩)
   ·rintro(h1|h1|⟨e',h1|rfl,h2⟩)
    ·exact .inr (.inl h1)
    ·exact .inr (.inr (.inl h1))
    ·exact .inr (.inr (.inr ⟨e',h1,h2⟩))
    ·exact .inl h2.symm
 ·refine gZ ?_;rw[List.take_of_length_le (by omega)]at z;have l0:l.length<=12:=by
   have:=Us (m:=0::10000::x.events.map (·.day)) k3.nodup fun v hv=>by
    rcases(z v).1 hv with rfl|rfl|⟨e,he,rfl⟩
    ·simp
    ·simp
    ·simp only[List.mem_cons,List.mem_map];exact .inr (.inr ⟨e,he,rfl⟩)
   simp at this;omega
  have n0:l≠[]:=by
   rintro rfl;have:=(z 0).2 (.inl rfl);simp at this
  refine t_gr (c2059 o0 k3 n0 l0) ?_;rintro _ R z2 ⟨p,n,c',days,rfl,hs,q3,w0,H⟩;have E:IsDays x days:=⟨w0,fun v=>by rw[H,z]⟩
  have n3:=hs.1;have l3:2<=days.length:=by
   have h0:(0:Int)∈days:=(E.mem 0).2 (.inl rfl);have h1:(10000:Int)∈days:=(E.mem 10000).2 (.inr (.inl rfl))
   match days,h0,h1 with
   | [],h0,_=>simp at h0
   | [a],h0,h1=>simp at h0 h1;omega
   | a::b::l,_,_=>simp
  have a3:days.length<=12:=by
   have:=Us (m:=l) (w0.imp fun h=>by omega) fun v hv=>(H v).1 hv;omega
  have hbound:∀ v∈days,0<=v/\v<=10000:=by
   intro v hv;rcases(E.mem v).1 hv with rfl|rfl|⟨e,he,rfl⟩
   ·omega
   ·omega
   ·have:=rt.ok e he;omega
  have z0:=LH.le_trans N z2;refine gZ ?_;have hw:wrap .i64 ((n:Int)-1)=((n-1:Nat):Int):=by rw[Qm (by omega) (by omega)];omega
  rw[hw];refine J7 und50 inf3 (by omega) ?_;refine gZ ?_;refine Je (fun mm vs h'=>R.le h'/\∃ (j:Nat) (q:Option Addr) (m P:Nat) (out:List Sp),vs=[.slice q m P,.int .i64 j]/\j<=n-1/\mm=n-1-j/\out.length<=j/\Growing SpEnc 46 2 R.get h'.get q m P out/\spansT x k i days=spansGo (fun d=>decide (0<=dateOn x k i d)) (days.drop j) out)
   ⟨LH.le_refl _,0,none,0,0,[],rfl,Nat.zero_le _,rfl,Nat.le_refl _,Growing.nil,rfl⟩ ?_
  clear hY e1 hj;rintro Y mm vs h5 hY ⟨F,j,q,O,P,out,rfl,hj,rfl,p0,g,hc⟩;have B:=LH.le_trans z0 F;have m2:=g.count SpEnc.len (by omega);have next:∀ h' q' m' c' t,R.le h'->j+1<=n-1->t.length<=j+1->Growing SpEnc 46 2 R.get h'.get q' m' c' t->spansT x k i days=spansGo (fun d=>decide (0<=dateOn x k i d)) (days.drop (j+1)) t->Y [.slice q' m' c',.int .i64 (wrap .i64 ((j:Int)+1))] h':=by
   intro h' q' m' c' t m0 u1 q0 g' m1;refine hY (n-1-(j+1)) _ _ (by omega) ⟨m0,j+1,q',m',c',t,?_,by omega,rfl,q0,g',m1⟩;rw[Qm (by omega) (by omega)];rfl
  refine yJ (fun e2=>?_) (fun e2=>?_)
  ·obtain⟨d,a,hd,U,e3⟩:=(hs.le IntE.grow F.1).at (i:=j) (by omega);obtain⟨d2,a2,w,a0,e4⟩:=(hs.le IntE.grow F.1).at (i:=j+1) (by omega);unfold IntE at e3 e4;rw[U]at a0;cases a0;have u2:wrap .i64 ((j:Int)+1)=((j+1:Nat):Int):=by rw[Qm (by omega) (by omega)];rfl
   rw[Jy hd,Jy w,spansGo]at hc;rw[<- Jy w]at hc;have m3:=hbound d (List.mem_of_getElem? hd);have b3:=hbound d2 (List.mem_of_getElem? w);rw[u2]at next ⊢
   refine gZ ?_;refine t_gr (c2060 (hk.le B.1) (hx.le B.1) rt k i d) ?_;rintro _ S a1 rfl;have u:=LH.le_trans F a1;have g6:=g.le a1.1;refine yJ (fun e5=>?_) (fun e5=>?_)
   ·rw[if_neg (by simp;omega)]at hc;exact Qj (next S q O P out u (by omega) (by omega) g6 hc)
   ·rw[if_pos (by simp;omega)]at hc;have q2:wrap .i64 (d2-1)=d2-1:=Qm (by omega) (by omega);have y0:wrap .i64 (d-1)=d-1:=Qm (by omega) (by omega);rw[q2,y0];have push:spansT x k i days=spansGo (fun d=>decide (0<=dateOn x k i d)) (days.drop (j+1)) (out++[⟨d,d2-1⟩])->∀ {K:Value->T} {Q:Leaf->LH->Prop},(∀ I c' h',R.le h'->Growing SpEnc 46 2 R.get h'.get I (O+1) c' (out++[⟨d,d2-1⟩])->(K (.slice I (O+1) c')).wp X0 Tryz.prog Q h') ->
      (T.sem false (Instr.buildSlice 22 1 #[(0,.agg #[.int .i64 d,.int .i64 (d2-1)])]) fun v=>T.unS v fun a m mc=>T.sem false (Builtin.append_ #[22,22] 22 #[.slice q O P,.slice a m mc]) K).wp X0 Tryz.prog Q S:=by
     intro _ K Q hK;refine G9 (⟨d,d2-1⟩ : Sp) [.int .i64 d,.int .i64 (d2-1)] rfl rfl und22 inf30 rfl (by omega) (by decide) (by kernel_rfl) rfl (by simp;exact⟨rfl,rfl⟩) (by omega) g6 u rfl ?_;intro I c' Z C _ X;exact hK I c' Z C X
    refine t_if (fun e6=>?_) (fun e6=>?_)
    ·obtain⟨t,s,rfl⟩ : ∃ t s,out=t++[s]:=⟨out.dropLast,out.getLast (by rintro rfl;simp at m2;omega),(List.dropLast_concat_getLast _).symm⟩
     obtain⟨r,cs,rfl,A,o2,j3,u1,j0,u0⟩:=g6.lastSp;have x2:wrap .i64 ((O:Int)-1)=(t.length:Int):=by rw[Qm (by omega) (by omega)];omega
     have L:S.get.cell? ((Addr.add ⟨r,0,none⟩ ((t.length:Int).toNat*2)).add 1)=some (.int .i64 s.last):=by
      rw[Qa,Qa];have:0+(t.length:Int).toNat*2+1=2*t.length+1:=by simp;omega
      rw[this];simp only[Cells.cell?,A,Option.isSome_none,Bool.false_eq_true,if_false];exact j0
     rw[join_last]at hc;rw[x2];refine gT (by omega) (gS2 rfl (gL0 L ?_));refine Qt (fun e7=>?_) (fun e7=>?_)
     ·rw[if_pos (by simpa using e7)]at hc;refine gT (by omega) (gS2 rfl ?_);have J:((Addr.add ⟨r,0,none⟩ ((t.length:Int).toNat*2)).add 1).add 0=⟨r,2*t.length+1,none⟩:=by
       rw[Qa,Qa,Qa];have:0+(t.length:Int).toNat*2+1+0=2*t.length+1:=by simp;omega
       rw[this]
      rw[J];have D:S.get.cell? ⟨r,2*t.length+1,none⟩=some (.int .i64 s.last):=by
       simp only[Cells.cell?,A,Option.isSome_none,Bool.false_eq_true,if_false];exact j0
      refine t_store rfl ⟨_,A⟩ D (by simp[Cells.frozen?,A]) ?_;have x0:S.get.setCell ⟨r,2*t.length+1,none⟩ (.int .i64 (d2-1))=S.get.upd r (true,.cells (cs.setIfInBounds (2*t.length+1) (.int .i64 (d2-1))) 46 (0,0)):=by
       funext b;unfold Cells.setCell Cells.upd;by_cases e:b=r
       ·subst e;simp[A]
       ·simp[e]
      rw[x0];refine Qj (next _ _ _ _ (t++[⟨s.first,d2-1⟩]) ?_ (by omega) (by simp at p0 ⊢;omega) (u0 (d2-1)) hc);refine⟨fun b y hb=>?_,u.2⟩;have n2:b≠r:=by rintro rfl;rw[o2]at hb;cases hb
      show Cells.upd _ _ _ b=_;rw[Qp _ _ n2];exact u.1 b y hb
     ·rw[if_neg (by simpa using e7)]at hc;refine push hc fun I c' Z C X=>?_;refine gZ ?_;exact Qj (next Z I _ c' _ C (by omega) (by simp at p0 ⊢;omega) X hc)
    ·have s0:out=[]:=List.eq_nil_of_length_eq_zero (by omega);subst s0;rw[join_none]at hc;refine push hc fun I c' Z C X=>?_;refine gZ ?_;exact Qj (next Z I _ c' _ C (by omega) (by simp) X hc)
  ·refine gZ ?_;have o3:j=n-1:=by omega
   have k0:spansT x k i days=out:=by
    rw[hc];have M:(days.drop j).length=1:=by rw[List.length_drop];omega
    match hd:days.drop j,M with
    | [d],_=>rfl
   refine Qh ⟨B,.inr ⟨e0,q,O,P,days,rfl,E,?_,?_⟩⟩
   ·rw[k0];exact g.sl SpEnc.len (by omega) SpEnc.e (by omega)
   ·obtain⟨vs,o,_⟩:=g.row;exact o.le_cap
end Go.Y.Tre
end
section
namespace Go.TM
variable {P:Program}
variable {h:LH}{v:Value}
theorem setCell_at{h:Cells}{r i:Nat}{m:Bool}{cs:Array Value}{el:TypeId}(hr:h r=some (m,.cells cs el (0,0))):h.setCell ⟨r,i,none⟩ v=h.upd r (m,.cells (cs.setIfInBounds i v) el (0,0)):=by
 funext b;unfold Cells.setCell Cells.upd;by_cases e:b=r
 ·subst e;simp[hr]
 ·simp[e]
theorem t_newSt2{X:XP}{Q:Leaf->LH->Prop}{e:TypeId}{v₀:Value}{k:Nat->T}(h1:isOne v=true)(b:∀ r h',h.le h'->h.get r=none->h'.get=h.get.upd r (true,.cells #[v] e (0,0))->h'.get.cell? ⟨r,0,none⟩=some v->(k r).wp X P Q h') :
  (T.new e #[v₀] fun r=>T.store (Addr.add ⟨r,0,none⟩ 0) v (k r)).wp X P Q h:=by
 refine Kg fun r hr=>?_;have a:Addr.add (⟨r,0,none⟩ : Addr) 0=⟨r,0,none⟩:=by rw[Qa]
 rw[a];refine D6 (o:=0) rfl h1 (by simp) ?_;have:(#[v₀]:Array Value).setIfInBounds 0 v=#[v]:=rfl;rw[this];exact b r _ (Q1 hr) hr rfl (Q6 rfl)
theorem cell_freeze2(F:Nat->Bool)(h:Cells)(a:Addr):(freezeC F h).cell? a=h.cell? a:=by
 unfold Cells.cell? freezeC;cases h a.block with
 | none=>rfl
 | some x=>obtain⟨m,o⟩:=x;cases o<;>rfl
theorem rd_freeze2(F:Nat->Bool)(h:Cells):Rd h (freezeC F h):=fun a v hc=>by rw[cell_freeze2];exact hc
theorem rd_drop2{h:Cells}{c s:Nat}(b:h c=some (true,.chan 0 #[] false s s false)):Rd h (dropC h c):=by
 intro a v hc;unfold Cells.cell? dropC at *;by_cases e:a.block=c
 ·rw[e,b]at hc;cases hc
 ·rw[if_neg e];exact hc
def Hand2(q1 q2:Nat)(h:LH):Prop:=(h.chans=[]/\q1≠q2/\(∃ s,h.get q1=some (true,.chan 0 #[] false s s false))/\∃ s,h.get q2=some (true,.chan 0 #[] false s s false))\/h.chans=[q2,q1]
theorem Hand2.le{f g:Nat}{h h':LH}(e:h.le h')(i:Hand2 f g h):Hand2 f g h':=by
 rcases i with⟨a,b,⟨s,c⟩,t,d⟩|a
 ·exact .inl ⟨by rw[e.2.1,a],b,⟨s,e.1 _ _ c⟩,t,e.1 _ _ d⟩
 ·exact .inr (by rw[e.2.1,a])
theorem spawnW_two{f:FuncId}{cap:Array Value}{Q:LH->Prop}{s:Script}(d g:Nat)(a:[]∉h.pend)(l:Hand2 d g h)(k:s≠[])(p:∀ y∈s,y.1=d\/y.1=g)(c:∀ hc,Rd h.get hc->FWK XW P .deferred f cap ⟨hc,[],[],s⟩ fun _ _=>False)
 (n:∀ h',Rd h.get h'.get->h'.chans=[g,d]->h'.todo=h.todo->h'.pend=h.pend++[s]->Q h'):SpawnW XT P (.func (.func f) #[] cap) #[] h Q:=by
 have key:∀ h1:LH,Rd h.get h1.get->h1.chans=[g,d]->h1.todo=h.todo->h1.pend=h.pend->SpawnW XT P (.func (.func f) #[] cap) #[] h1 Q:=by
  intro h1 r1 c1 t1 m;refine spawnW (fun _=>true) (freezeC (fun _=>true) h1.get) s k (hargs:=cap) (by simp) ?_ (by rw[m];exact a) ?_ (c _ (r1.trans (rd_freeze2 _ _))) ?_
  ·intro r x b;refine⟨?_,b⟩;unfold freezeC at b;cases j:h1.get r with
   | none=>rw[j]at b;cases b
   | some y=>rw[j]at b;simp at b;rw[<- b]
  ·intro y j;rw[c1];rcases p y j with e|e<;>simp[e]
  ·exact n _ (r1.trans (rd_freeze2 _ _)) c1 t1 (by show h1.pend++_=_;rw[m])
 rcases l with⟨h1,o,⟨s1,h2⟩,s2,h3⟩|h1
 ·refine SpawnW.opened a d s1 h2 ?_;have i:dropC h.get d g=some (true,.chan 0 #[] false s2 s2 false):=by unfold dropC;rw[if_neg (Ne.symm o)];exact h3
  refine SpawnW.opened a g s2 i (key _ ((rd_drop2 h2).trans (rd_drop2 i)) ?_ rfl rfl);show g::d::h.chans=_;rw[h1]
 ·exact key h (Rd.refl _) h1 rfl rfl
def scr(q1 q2:Nat)(φ:Nat->Value->Cells->Prop)(ψ:Value->Cells->Prop)(x:Nat×Bool):Script:=if x.2 then [(q1,φ x.1),(q2,ψ)] else [(q2,ψ)]
theorem commW_sel{last:Bool}{g f:Nat}{A B:Value}{φ:Nat->Value->Cells->Prop}{ψ:Value->Cells->Prop}{rem:List (Nat×Bool)}{Q:Value->LH->Prop}(K:h.pend=rem.map (scr g f φ ψ))(hc:h.chans=[f,g])(D:g≠f)(J:rem≠[])
 (F:∀ j i m v d,rem=j++(i,true)::m->d.todo=h.todo->d.pend=(j++(i,false)::m).map (scr g f φ ψ)->d.chans=[f,g]->(∃ hv,φ i v hv/\hv.le d.get)->h.get.le d.get->Q (commResult #[rcase g A,rcase f B] .select (0:Nat) v true) d)
 (q:∀ j i m v d,rem=j++(i,false)::m->d.todo=h.todo->d.pend=(j++m).map (scr g f φ ψ)->((j++m≠[]/\d.chans=[f,g])\/(j++m=[]/\d.chans=[]))->(∃ hv,ψ v hv)->h.get.le d.get->Q (commResult #[rcase g A,rcase f B] .select (1:Nat) v true) d):CommW XT P last #[rcase g A,rcase f B] .select h Q:=by
 refine CommW.closed (CommW.closed (commW_recv ?_ (by rw[K];simpa using J) ?_ ?_))
 ·intro k U l
  match k,l with
  | 0,l=>simp at l;subst l;exact⟨g,A,rfl,by rw[hc];simp⟩
  | 1,l=>simp at l;subst l;exact⟨f,B,rfl,by rw[hc];simp⟩
  | k+2,l=>simp at l
 ·intro s E;rw[K]at E;obtain⟨⟨i,b⟩,t,rfl⟩:=List.mem_map.1 E;cases b with
  | true=>exact⟨g,φ i,[(f,ψ)],0,A,rfl,rfl⟩
  | false=>exact⟨f,ψ,[],1,B,rfl,rfl⟩
 ·intro pre χ s post k c v hv W y a S O n;rw[K]at y;obtain⟨j,m,rfl,u,I⟩:=List.map_eq_append_iff.1 y;obtain⟨⟨i,b⟩,z,rfl,t,w⟩:=List.map_eq_cons_iff.1 I;have o:h.get.le (h.get.add hv):=Zm _ _;have M:hv.le (h.get.add hv):=fun r x hr=>Q3 S hr;cases b with
  | true =>
   simp only[scr,if_true,List.cons.injEq,Prod.mk.injEq]at t;obtain⟨⟨rfl,rfl⟩,rfl⟩:=t;have G:k=0:=by
    match k,a with
    | 0,_=>rfl
    | 1,a=>simp[rcase]at a;exact absurd a.1.symm D
    | k+2,a=>simp at a
   subst G;refine .inl (.inl (F j i z v _ rfl rfl ?_ hc ⟨hv,n,M⟩ o));show pre++cons' [(f,ψ)] post=_;rw[<- u,<- w,List.map_append,List.map_cons];rfl
  | false =>
   simp only[scr,Bool.false_eq_true,if_false,List.cons.injEq,Prod.mk.injEq]at t;obtain⟨⟨rfl,rfl⟩,rfl⟩:=t;have H:k=1:=by
    match k,a with
    | 0,a=>simp[rcase]at a;exact absurd a.1 D
    | 1,_=>rfl
    | k+2,a=>simp at a
   subst H;have e:pre++cons' [] post=(j++z).map (scr g f φ ψ):=by
    show pre++post=_;rw[<- u,<- w,List.map_append]
   by_cases C:j++z=[]
   ·right;refine⟨f,by show f∈h.chans;rw[hc];simp,by show pre++cons' [] post=[];rw[e,C];rfl,fun s E=>?_⟩;right;refine⟨g,?_,by show pre++cons' [] post=[];rw[e,C];rfl,fun V L=>?_⟩
    ·show g∈h.chans.filter _;rw[hc];simp[D]
    ·refine q j i z v _ rfl rfl e (.inr ⟨C,?_⟩) ⟨hv,n⟩ ?_
     ·show (h.chans.filter _).filter _=[];rw[hc];simp[D]
     ·exact Cells.le_trans o (Cells.le_trans (Zc _ E) (Zc _ L))
   ·exact .inl (.inl (q j i z v _ rfl rfl e (.inl ⟨C,hc⟩) ⟨hv,n⟩ o))
/-! ### R p and N boxes, made in any order -/
structure Opening(t1 t2:TypeId)(h₀ h:LH)(c1 c2:Option Nat)(b1 b2:Option (Nat×Bool)):Prop where
 le:h₀.le h
 hc1:∀ q,c1=some q->h.get q=some (true,.chan 0 #[] false 0 0 false)
 hc2:∀ q,c2=some q->h.get q=some (true,.chan 0 #[] false 0 0 false)
 ne:∀ q q',c1=some q->c2=some q'->q≠q'
 hb1:∀ r s,b1=some (r,s)->h₀.get r=none/\h.get r=some (true,.cells #[.chan (if s then c1 else none)] t1 (0,0))
 hb2:∀ r s,b2=some (r,s)->h₀.get r=none/\h.get r=some (true,.cells #[.chan (if s then c2 else none)] t2 (0,0))
 bne:∀ r s r' s',b1=some (r,s)->b2=some (r',s')->r≠r'
section
variable {X:XP} {Q:Leaf->LH->Prop} {h₀ h:LH} {c1 c2:Option Nat} {b1 b2:Option (Nat×Bool)} {t1 t2:TypeId}
variable {b s q r:Nat}{k:Value->T}{el:TypeId}{z:Option Value}
theorem Opening.start:Opening t1 t2 h₀ h₀ none none none none:=⟨LH.le_refl _,fun _ h=>(by cases h),fun _ h=>(by cases h),fun _ _ h=>(by cases h),fun _ _ h=>(by cases h),fun _ _ h=>(by cases h),fun _ _ _ _ h=>(by cases h)⟩
theorem Wp{h:Cells}{a:Nat}{x:Bool×Obj}(c:h a=none)(hb:h b=some x):b≠a:=by rintro rfl;rw[c]at hb;cases hb
theorem op_chan1{d:ChanDir}(hu:P.underlying t1=some (.chan d el))(j:(P.info? el).map (fun i=>(i.size,i.bytes,i.zero))=some (s,b,z))(O:Opening t1 t2 h₀ h none c2 b1 b2)
 (l:∀ q h',Opening t1 t2 h₀ h' (some q) c2 (b1.map fun x=>(x.1,false)) b2->(k (.chan (some q))).wp X P Q h'):(T.sem false (Instr.makeChan t1 (.int .i64 0)) k).wp X P Q h:=by
 refine t_makeChan hu j fun q c=>l q _ ?_;have hle:=Q1 (x:=(true,.chan 0 #[] false 0 0 false)) c;refine⟨LH.le_trans O.le hle,fun f e=>by cases e;exact Qn _ _ _,fun f e=>hle.1 _ _ (O.hc2 f e),fun a b g hb=>by cases g;exact(Wp c (O.hc2 b hb)).symm,fun r s hr=>?_,fun r s hr=>⟨(O.hb2 r s hr).1,hle.1 _ _ (O.hb2 r s hr).2⟩,fun r s m n h1 h2=>?_⟩
 ·cases hb:b1 with
  | none=>rw[hb]at hr;cases hr
  | some x =>
   rw[hb]at hr;cases hr;have:=O.hb1 x.1 x.2 hb;refine⟨this.1,?_⟩;have h3:=hle.1 _ _ this.2;rw[h3];cases x.2<;>rfl
 ·cases hb:b1 with
  | none=>rw[hb]at h1;cases h1
  | some x=>rw[hb]at h1;cases h1;exact O.bne x.1 x.2 m n hb h2
theorem op_chan2{d:ChanDir}(hu:P.underlying t2=some (.chan d el))(j:(P.info? el).map (fun i=>(i.size,i.bytes,i.zero))=some (s,b,z))(O:Opening t1 t2 h₀ h c1 none b1 b2)
 (l:∀ q h',Opening t1 t2 h₀ h' c1 (some q) b1 (b2.map fun x=>(x.1,false))->(k (.chan (some q))).wp X P Q h'):(T.sem false (Instr.makeChan t2 (.int .i64 0)) k).wp X P Q h:=by
 refine t_makeChan hu j fun q c=>l q _ ?_;have hle:=Q1 (x:=(true,.chan 0 #[] false 0 0 false)) c;refine⟨LH.le_trans O.le hle,fun f e=>hle.1 _ _ (O.hc1 f e),fun f e=>by cases e;exact Qn _ _ _,fun a b g hb=>by cases hb;exact Wp c (O.hc1 a g),fun r s hr=>⟨(O.hb1 r s hr).1,hle.1 _ _ (O.hb1 r s hr).2⟩,fun r s hr=>?_,fun r s m n h1 h2=>?_⟩
 ·cases hb:b2 with
  | none=>rw[hb]at hr;cases hr
  | some x =>
   rw[hb]at hr;cases hr;have:=O.hb2 x.1 x.2 hb;refine⟨this.1,?_⟩;have h3:=hle.1 _ _ this.2;rw[h3];cases x.2<;>rfl
 ·cases hb:b2 with
  | none=>rw[hb]at h2;cases h2
  | some x=>rw[hb]at h2;cases h2;exact O.bne r s x.1 x.2 h1 hb
theorem op_new1{k:Nat->T}(O:Opening t1 t2 h₀ h c1 c2 none b2)(c:∀ r h',Opening t1 t2 h₀ h' c1 c2 (some (r,false)) b2->(k r).wp X P Q h'):(T.new t1 #[.chan none] k).wp X P Q h:=by
 refine Kg fun q a=>c q _ ?_;have hle:=Q1 (x:=(true,.cells #[.chan none] t1 (0,0))) a;have h0:h₀.get q=none:=by
  cases d:h₀.get q with
  | none=>rfl
  | some x=>rw[O.le.1 _ _ d]at a;cases a
 exact⟨LH.le_trans O.le hle,fun b e=>hle.1 _ _ (O.hc1 b e),fun b e=>hle.1 _ _ (O.hc2 b e),O.ne,fun r s hr=>by cases hr;exact⟨h0,Qn _ _ _⟩,fun r s hr=>⟨(O.hb2 r s hr).1,hle.1 _ _ (O.hb2 r s hr).2⟩,fun r s f g h1 h2=>by cases h1;exact(Wp a (O.hb2 f g h2).2).symm⟩
theorem op_new2{k:Nat->T}(O:Opening t1 t2 h₀ h c1 c2 b1 none)(c:∀ r h',Opening t1 t2 h₀ h' c1 c2 b1 (some (r,false))->(k r).wp X P Q h'):(T.new t2 #[.chan none] k).wp X P Q h:=by
 refine Kg fun q a=>c q _ ?_;have hle:=Q1 (x:=(true,.cells #[.chan none] t2 (0,0))) a;have h0:h₀.get q=none:=by
  cases d:h₀.get q with
  | none=>rfl
  | some x=>rw[O.le.1 _ _ d]at a;cases a
 exact⟨LH.le_trans O.le hle,fun b e=>hle.1 _ _ (O.hc1 b e),fun b e=>hle.1 _ _ (O.hc2 b e),O.ne,fun r s hr=>⟨(O.hb1 r s hr).1,hle.1 _ _ (O.hb1 r s hr).2⟩,fun r s hr=>by cases hr;exact⟨h0,Qn _ _ _⟩,fun r s f g h1 h2=>by cases h2;exact Wp a (O.hb1 r s h1).2⟩
theorem op_store1{k:T}(O:Opening t1 t2 h₀ h (some q) c2 (some (r,false)) b2)(l:∀ h',Opening t1 t2 h₀ h' (some q) c2 (some (r,true)) b2->k.wp X P Q h'):(T.store (Addr.add ⟨r,0,none⟩ 0) (.chan (some q)) k).wp X P Q h:=by
 have hr:=(O.hb1 r false rfl).2;have j:Addr.add (⟨r,0,none⟩ : Addr) 0=⟨r,0,none⟩:=by rw[Qa]
 rw[j];refine t_store rfl ⟨_,hr⟩ (v₀:=.chan none) (by simp[Cells.cell?,hr]) (by simp[Cells.frozen?,hr]) ?_;rw[setCell_at hr];refine l _ ?_;have keep:∀ b x,h.get b=some x->b≠r->(h.get.upd r (true,.cells ((#[.chan (if false=true then some q else none)]:Array Value).setIfInBounds 0 (.chan (some q))) t1 (0,0))) b=some x:=fun b x hb i=>by rw[Qp _ _ i];exact hb
 have f:∀ b,h.get b=some (true,.chan 0 #[] false 0 0 false)->b≠r:=fun b hb e=>by rw[e,hr]at hb;cases hb
 refine⟨⟨fun b x hb=>keep b x (O.le.1 b x hb) (Wp (O.hb1 r false rfl).1 hb),O.le.2⟩,fun g e=>keep _ _ (O.hc1 g e) (f _ (O.hc1 g e)),fun g e=>keep _ _ (O.hc2 g e) (f _ (O.hc2 g e)),O.ne,fun d s c=>?_,fun d s c=>⟨(O.hb2 d s c).1,keep _ _ (O.hb2 d s c).2 (O.bne r false d s rfl c).symm⟩,fun a s d m h1 h2=>by cases h1;exact O.bne r false d m rfl h2⟩;cases c;exact⟨(O.hb1 r false rfl).1,Qn _ _ _⟩
theorem op_store2{k:T}(O:Opening t1 t2 h₀ h c1 (some q) b1 (some (r,false)))(l:∀ h',Opening t1 t2 h₀ h' c1 (some q) b1 (some (r,true))->k.wp X P Q h'):(T.store (Addr.add ⟨r,0,none⟩ 0) (.chan (some q)) k).wp X P Q h:=by
 have hr:=(O.hb2 r false rfl).2;have j:Addr.add (⟨r,0,none⟩ : Addr) 0=⟨r,0,none⟩:=by rw[Qa]
 rw[j];refine t_store rfl ⟨_,hr⟩ (v₀:=.chan none) (by simp[Cells.cell?,hr]) (by simp[Cells.frozen?,hr]) ?_;rw[setCell_at hr];refine l _ ?_;have keep:∀ b x,h.get b=some x->b≠r->(h.get.upd r (true,.cells ((#[.chan (if false=true then some q else none)]:Array Value).setIfInBounds 0 (.chan (some q))) t2 (0,0))) b=some x:=fun b x hb i=>by rw[Qp _ _ i];exact hb
 have d:∀ b,h.get b=some (true,.chan 0 #[] false 0 0 false)->b≠r:=fun b hb e=>by rw[e,hr]at hb;cases hb
 refine⟨⟨fun b x hb=>keep b x (O.le.1 b x hb) (Wp (O.hb2 r false rfl).1 hb),O.le.2⟩,fun f e=>keep _ _ (O.hc1 f e) (d _ (O.hc1 f e)),fun f e=>keep _ _ (O.hc2 f e) (d _ (O.hc2 f e)),O.ne,fun g s c=>⟨(O.hb1 g s c).1,keep _ _ (O.hb1 g s c).2 (O.bne g s r false c rfl)⟩,fun g s c=>?_,fun a s g m h1 h2=>by cases h2;exact O.bne a s r false h1 rfl⟩;cases c;exact⟨(O.hb2 r false rfl).1,Qn _ _ _⟩
end
end Go.TM
end
namespace Go.Y.Tre
section
open Go.TM.Tr
attribute [local irreducible] T.wp CV FWK
variable {i j:Nat}{l:List Int}{f:TC}{x:TF}
theorem bit_test(c:i<2^32):(wrap .i64 (((BitVec.ofInt 64 (Int.fdiv (i:Int) (2^min (j:Int).toNat 64)) &&& BitVec.ofInt 64 1).toNat:Nat):Int)==1)=i.testBit j:=by
 have d:∃ q:Nat,Int.fdiv (i:Int) (2^min (j:Int).toNat 64)=(q:Int)/\q<=i/\q%2=(i / 2^j)%2:=by
  by_cases f:j<=64
  ·have hm:min (j:Int).toNat 64=j:=by simp;omega
   refine⟨i / 2^j,?_,Nat.div_le_self _ _,rfl⟩;rw[hm];have:(2^j:Int)=((2^j:Nat):Int):=by simp
   rw[this,<- Int.ofNat_fdiv]
  ·have hm:min (j:Int).toNat 64=64:=by simp;omega
   refine⟨0,?_,Nat.zero_le _,?_⟩
   ·rw[hm];have:(2^64:Int)=((2^64:Nat):Int):=by simp
    rw[this,<- Int.ofNat_fdiv];have:i / 2^64=0:=Nat.div_eq_of_lt (by omega);rw[this]
   ·have:i / 2^j=0:=Nat.div_eq_of_lt (Nat.lt_of_lt_of_le c (Nat.pow_le_pow_right (by omega) (by omega)));rw[this]
 obtain⟨q,h1,h2,h3⟩:=d;rw[h1];have a:(BitVec.ofInt 64 (q:Int)).toNat=q:=by rw[BitVec.toNat_ofInt];omega
 have b:(BitVec.ofInt 64 1).toNat=1:=rfl;rw[BitVec.toNat_and,a,b,Nat.and_one_is_mod,Qm (by omega) (by omega),Nat.testBit_eq_decide_div_mod_eq,<- h3];by_cases e:q%2=1
 ·rw[e];rfl
 ·have:q%2=0:=by omega
  rw[this];rfl
theorem sets_wrap{n:Nat}(b:n<=10):wrap .i64 (1*2^min (Int.toNat (n:Int)) 64)=((2^n:Nat):Int):=by
 have e:min (Int.toNat (n:Int)) 64=n:=by simp;omega
 have h2:(2:Nat)^n<=2^10:=Nat.pow_le_pow_right (by omega) b;have a:(1:Int)*2^n=((2^n:Nat):Int):=by simp
 rw[e,a];generalize 2^n=m at h2;rw[Qm (by omega) (by omega)]
def bitsTo(l:List Int)(i j:Nat):List Int:=(((List.range l.length).take j).filter fun b=>i.testBit b).map fun b=>l.getD b 0
def bitsL(l:List Int)(i:Nat):List Int:=((List.range l.length).filter fun b=>i.testBit b).map fun b=>l.getD b 0
theorem bits_all(a:l.length<=j):bitsTo l i j=bitsL l i:=by
 unfold bitsTo bitsL;rw[List.take_of_length_le (by simpa using a)]
theorem bits_take{y:Int}(a:l[j]?=some y):bitsTo l i (j+1)=bitsTo l i j++if i.testBit j then [y] else []:=by
 have b:j<l.length:=(List.getElem?_eq_some_iff.1 a).1;unfold bitsTo;rw[List.take_succ_eq_append_getElem (by simpa using b),List.filter_append,List.map_append];congr 1;simp only[List.getElem_range,List.filter_cons,List.filter_nil];split
 ·simp[List.getD,a]
 ·rfl
theorem range_getD(l:List Int):(List.range l.length).map (fun b=>l.getD b 0)=l:=by
 refine List.ext_getElem (by simp) fun i h1 h2=>?_;simp[List.getD,List.getElem?_eq_getElem h2]
theorem bits_len:(bitsTo l i j).length<=l.length:=by
 unfold bitsTo;rw[List.length_map];refine Nat.le_trans (List.length_filter_le _ _) ?_;rw[List.length_take,List.length_range];omega
theorem bits_sub:(bitsL l i).Sublist l:=by
 unfold bitsL;have h:((List.range l.length).filter fun b=>i.testBit b).Sublist (List.range l.length):=List.filter_sublist;have:=h.map fun b=>l.getD b 0;rwa[range_getD]at this
theorem sub_bits{m:List Int}(d:l.Nodup)(h:m.Sublist l):∃ i,i<2^l.length/\bitsL l i=m:=by
 obtain⟨i,c,hb⟩:=bits_of (fun b=>decide (l.getD b 0∈m)) l.length;refine⟨i,c,?_⟩;unfold bitsL;rw[List.filter_congr (q:=(fun x=>decide (x∈m))∘fun b=>l.getD b 0) fun b a=>hb b (List.mem_range.1 a),<- List.filter_map,range_getD];exact filter_sub h d
structure TAt(h:Cells)(a:Addr)(f:TC)(x:TF):Prop where
 f0:h.cell? (a.add 0)=some (.int .i64 x.items)
 f1:h.cell? (a.add 1)=some (.int .i64 x.lands)
 f2:h.cell? (a.add 2)=some (.int .i64 x.start)
 f3:h.cell? (a.add 3)=some (.int .i64 x.depend)
 f4:h.cell? (a.add 4)=some (.int .i64 x.refuse)
 f5:h.cell? (a.add 5)=some (.int .i64 x.turn)
 f6:h.cell? (a.add 6)=some (.slice f.p f.n f.c)
theorem TAt.rd{h h':Cells}{a:Addr}(b:Rd h h')(m:TAt h a f x):TAt h' a f x:=⟨b _ _ m.f0,b _ _ m.f1,b _ _ m.f2,b _ _ m.f3,b _ _ m.f4,b _ _ m.f5,b _ _ m.f6⟩
theorem TAt.le{h h':Cells}{a:Addr}{f:TC}{x:TF}(b:h.le h')(m:TAt h a f x):TAt h' a f x:=m.rd (Jj b)
def Found(x:TF)(i:Nat)(v:Value)(hv:Cells):Prop:=∃ a n c,v=.slice (some a) n c/\Sl IntE 1 hv (some a) n (bitsL (giving x) i)/\n<=c
def Done(v:Value)(_:Cells):Prop:=v=.bool true
def okB(x:TF)(k it d:Int)(i:Nat):Bool:=holdsB x k it d (bitsL (giving x) i)
theorem giving_ten(rt:Right x):(giving x).length<=10:=by
 have:=Dz x.events 0;have:=rt.many;unfold giving;omega
theorem c2073{hc:Cells}{K A:Nat}{Z z1 z2 z3 z4 z5 z6 C:Addr}{k it d:Int}(hk:Kinds hc)(w:TreatyR hc f x)(rt:Right x)(P:KindsOk x)(hat:TAt hc z2 f x)(hi:i<2^32)
 {ap:Option Addr}{B ac:Nat}(h0:hc.cell? Z=some (.slice ap B ac))(D:Sl IntE 1 hc ap B (giving x))(h1:hc.cell? z1=some (.int .i64 (i:Int)))(h3:hc.cell? z3=some (.int .i64 k))(h4:hc.cell? z4=some (.int .i64 it))(h5:hc.cell? z5=some (.int .i64 d))
 (O:hc.cell? z6=some (.chan (some K)))(u:hc.cell? C=some (.chan (some A))) :
  FWK XW Tryz.prog .deferred 118 #[.pointer (some Z),.pointer (some z1),.pointer (some z2),.pointer (some z3),.pointer (some z4),.pointer (some z5),.pointer (some z6),.pointer (some C)] ⟨hc,[],[],scr K A (Found x) Done (i,okB x k it d i)⟩ fun _ _=>False:=by
 generalize G:scr K A (Found x) Done (i,okB x k it d i)=J;refine w2073 _ _ _ _ _ _ _ _ XW_ok ?_;unfold n2073;have hn:=D.1;have a0:=giving_ten rt;refine t_build0 und50 inf3 fun b0 E=>?_;have H:LH.le ⟨hc,[],[],J⟩ _:=Q1 (x:=(true,.cells #[] 3 (0,0))) E;have k0:=Qo H.1 h0;refine gZ ?_;refine Je (fun W vs h'=>LH.le ⟨hc,[],[],J⟩ h'/\∃ (j:Nat) (a:Addr) (n c:Nat),vs=[.slice (some a) n c,.int .i64 j]/\j<=B/\W=B-j/\Growing IntEnc 3 1 hc h'.get (some a) n c (bitsTo (giving x) i j))
  ⟨H,0,_,0,0,rfl,Nat.zero_le _,rfl,⟨[],⟨rfl,.inr ⟨b0,#[],rfl,Qn _ _ _,rfl,Nat.le_refl _,fun j v hv=>by simp at hv⟩⟩,by unfold bitsTo;exact .nil⟩,fun a ha=>by cases ha;exact E⟩ ?_
 rintro Y W vs h₁ V ⟨hle,j,a,n,c,rfl,hj,rfl,g⟩;have e0:=g.count IntEnc.len (by omega);have hlen:=bits_len (l:=giving x) (i:=i) (j:=j);refine yJ (fun e1=>?_) (fun e1=>?_)
 ·obtain⟨y,ya,hy,j0,e2⟩:=(D.le IntE.grow hle.1).at (i:=j) (by omega);unfold IntE at e2;have k1:=Qo hle.1 h1;refine gZ ?_;rw[bit_test hi];have q:=bits_take (i:=i) hy;refine Qt (fun b=>?_) (fun b=>?_)
  ·rw[if_pos b]at q;refine G9 (h₀:=⟨hc,[],[],J⟩) y [.int .i64 y] rfl rfl und50 inf3 rfl (by omega) (by decide) (by kernel_rfl) rfl (by simp;rfl) (by omega) g hle rfl ?_;intro p' c' m o _ N;refine gZ ?_;obtain⟨L,rfl⟩ : ∃ L,p'=some L:=by
    obtain⟨vs,⟨_,O⟩,_⟩:=N.row;rcases O with⟨_,u,_⟩|⟨r,cs,u,_⟩
    ·omega
    ·exact⟨_,u⟩
   refine Qj (V (B-(j+1)) _ _ (by omega) ⟨o,j+1,L,n+1,c',?_,by omega,rfl,by rw[q];exact N⟩);rw[Qm (by omega) (by omega)];rfl
  ·rw[if_neg (by rw[b];simp),List.append_nil]at q;refine Qj (V (B-(j+1)) _ _ (by omega) ⟨hle,j+1,a,n,c,?_,by omega,rfl,by rw[q];exact g⟩);rw[Qm (by omega) (by omega)];rfl
 ·refine gZ ?_;rw[bits_all (by omega)]at g;rw[bits_all (by omega)]at hlen;obtain⟨g0,g1,N,g3,g4,g5,g6⟩:=hat.le hle.1;have k3:=Qo hle.1 h3;have k4:=Qo hle.1 h4;have k5:=Qo hle.1 h5;refine gZ ?_;refine t_gr (c2069 (hk.le hle.1) (w.le hle.1) rt P k it d (g.sl IntEnc.len (by omega) IntEnc.e (by omega))) ?_;rintro _ m I rfl;have o:=LH.le_trans hle I;have k6:=Qo o.1 O;have Q:=Qo o.1 u;refine yI (fun b=>?_) (fun b=>?_)
  ·refine Ua k6 ?_;refine Y4 ?_;have M:okB x k it d i=true:=b;have p:J=[(K,Found x i),(A,Done)]:=by rw[<- G,M];rfl
   have g7:=g.le I.1;obtain⟨vs,⟨o1,o2⟩,rows⟩:=g7.row;rcases o2 with⟨S,_⟩|⟨r,cs,S,U,o5,X,o7⟩
   ·cases S
   ·cases S;have F:hc r=none:=g.new _ rfl;refine D4 (z:=.tuple #[]) (φ:=Found x i) (s:=[(A,Done)]) (hv:=fun b=>if b=r then m.get b else none) (hr:=fun b=>if b=r then none else m.get b) (o.2.2.2.trans p) ?_ (fun b=>?_) (fun b x w=>?_) ?_ (fun h=>by cases h) (fun _=>?_)
    ·funext b;unfold Cells.add;by_cases e:b=r
     ·subst e;simp[U]
     ·simp[e]
    ·by_cases e:b=r
     ·right;simp[e]
     ·left;simp[e]
    ·have t:(if b=r then m.get b else none)=some x:=w;split at t
     ·rename_i e;subst e;rw[U]at t;cases t;rfl
     ·cases t
    ·refine⟨_,_,_,rfl,?_,X⟩;refine rows.sl IntEnc.len (by omega) IntEnc.e (el:=3) ⟨o1,.inr ⟨r,cs,rfl,?_,o5,X,o7⟩⟩ (by omega);show (if r=r then m.get r else none)=_;rw[if_pos rfl];exact U
    ·have hz:C.block≠r:=by
      intro e;unfold Cells.cell? at u;rw[e,F]at u;cases u
     have R:Cells.cell? (fun b=>if b=r then none else m.get b) C=some (.chan (some A)):=by
      have hb:(fun b=>if b=r then none else m.get b) C.block=m.get C.block:=if_neg hz;unfold Cells.cell? at Q ⊢;rw[hb];exact Q
     refine Ua R ?_;refine Y4 ?_;refine D4 (z:=.tuple #[]) (φ:=Done) (s:=[]) (hv:=fun _=>none) (hr:=fun b=>if b=r then none else m.get b) rfl ?_ (fun r=>.inl rfl) (fun r x w=>by cases w) rfl (fun _=>rfl) (fun h=>absurd rfl h);funext r;rfl
  ·refine Ua Q ?_;refine Y4 ?_;have M:okB x k it d i=false:=b;have p:J=[(A,Done)]:=by rw[<- G,M];rfl
   refine D4 (z:=.tuple #[]) (φ:=Done) (s:=[]) (hv:=fun _=>none) (hr:=m.get) (o.2.2.2.trans p) ?_ (fun r=>.inl rfl) (fun r x w=>by cases w) rfl (fun _=>rfl) (fun h=>absurd rfl h);funext r;rfl
end
section
open Go.TM.Tr
attribute [local irreducible] T.wp CV FWK
def BestR(h:Cells)(x:TF)(k it d:Int)(rem:List (Nat×Bool))(p:Option Addr)(n:Nat)(held:Bool):Prop :=
 (held=false/\p=none/\n=0/\∀ j,j<2^(giving x).length->(j,true)∉rem->okB x k it d j=false) \/
 (held=true/\∃ i a,p=some a/\i<2^(giving x).length/\okB x k it d i=true/\Sl IntE 1 h (some a) n (bitsL (giving x) i)/\∀ j,j<2^(giving x).length->(j,true)∉rem->okB x k it d j=true->fewerF (bitsL (giving x) i) (bitsL (giving x) j)<=0)
def weight:Nat×Bool->Nat|(_,true)=>2|(_,false)=>1
def NeedsR(h':Cells)(x:TF)(k it d:Int)(r:Value):Prop :=
 (Jr x k it d≠0/\r=.tuple #[.slice none 0 0,.bool false,.int .i64 (Jr x k it d)]) \/
 (Jr x k it d=0/\¬ 0<=dateOn x k it d/\r=.tuple #[.slice none 0 0,.bool false,.int .i64 0]) \/
 (Jr x k it d=0/\0<=dateOn x k it d/\∃ p n c,r=.tuple #[.slice p n c,.bool true,.int .i64 0]/\Sl IntE 1 h' p n (needT x k it d)/\n<=c)
variable {h h':Cells}{x:TF}{k it d:Int}{p:Option Addr}{n i:Nat}{b:Bool}
theorem BestR.done(v:Ok x)(hb:BestR h x k it d [] p n b):(¬ 0<=dateOn x k it d/\b=false/\p=none/\n=0)\/(0<=dateOn x k it d/\b=true/\Sl IntE 1 h p n (needT x k it d)):=by
 have o:(giving x).Nodup:=(Gl x.events 0).imp fun h=>by omega
 rcases hb with⟨h1,h2,h3,f⟩|⟨h1,i,a,h2,h3,f,h5,s⟩
 ·left;refine⟨fun e=>?_,h1,h2,h3⟩;obtain⟨q,r,_⟩:=need_spec (k:=k) (i:=it) (d:=d) e;obtain⟨j,g,c⟩:=sub_bits o r;have:=f j g (by simp);unfold okB at this;rw[c,q]at this;cases this
 ·have e:0<=dateOn x k it d:=by
   by_cases e:0<=dateOn x k it d
   ·exact e
   ·have:=none_holds v e (k:=k) (i:=it) (d:=d) (bits_sub (l:=giving x) (i:=i));unfold okB at f;rw[this]at f;cases f
  refine .inr ⟨e,h1,?_⟩;have:=need_one e (l:=bitsL (giving x) i) bits_sub f fun m hm t=>by
   obtain⟨j,g,c⟩:=sub_bits o hm;have:=s j g (by simp) (by unfold okB;rw[c];exact t);rwa[c]at this
  rw[h2,<- this];exact h5
theorem Sl.same{a b:List Int}(f:Sl IntE 1 h p n a)(hb:Sl IntE 1 h p n b):a=b:=by
 refine List.ext_getElem (by rw[<- f.1,<- hb.1]) fun i h1 h2=>?_;obtain⟨x,c,g,m,j⟩:=f.at (i:=i) (by rw[f.1];exact h1);obtain⟨y,d,k,l,e⟩:=hb.at (i:=i) (by rw[hb.1];exact h2);rw[m]at l;cases l;unfold IntE at j e;rw[j]at e;cases e;rw[List.getElem?_eq_getElem h1]at g;rw[List.getElem?_eq_getElem h2]at k;exact(Option.some.inj g).trans (Option.some.inj k).symm
theorem BestR.rd{h h':Cells}(hr:Rd h h'){x:TF}{k it d:Int}{rem:List (Nat×Bool)}{p:Option Addr}{n:Nat}{b:Bool}(hb:BestR h x k it d rem p n b):BestR h' x k it d rem p n b:=by
 rcases hb with hb|⟨h1,i,a,h2,h3,c,h5,e⟩
 ·exact .inl hb
 ·exact .inr ⟨h1,i,a,h2,h3,c,h5.rd IntE.grow hr,e⟩
theorem mem_but{a b:List (Nat×Bool)}{j:Nat}(h:(j,true)∉a++(i,false)::b):j=i\/(j,true)∉a++(i,true)::b:=by
 by_cases e:j=i
 ·exact .inl e
 ·right;simp only[List.mem_append,List.mem_cons,Prod.mk.injEq,not_or]at h ⊢;refine⟨h.1,by simp[e],h.2.2⟩
theorem BestR.drop{e f:List (Nat×Bool)}(hb:BestR h x k it d (e++(i,false)::f) p n b):BestR h x k it d (e++f) p n b:=by
 have key:∀ j,(j,true)∉e++f->(j,true)∉e++(i,false)::f:=by
  intro j c;simp only[List.mem_append,List.mem_cons,Prod.mk.injEq,not_or]at c ⊢;exact⟨c.1,by simp,c.2⟩
 rcases hb with⟨h1,h2,h3,g⟩|⟨h1,o,a,h2,h3,g,h5,m⟩
 ·exact .inl ⟨h1,h2,h3,fun j c l=>g j c (key j l)⟩
 ·exact .inr ⟨h1,o,a,h2,h3,g,h5,fun j c l=>m j c (key j l)⟩
theorem BestR.take{m o:List (Nat×Bool)}{q:Nat}{a:Addr}(hb:BestR h x k it d (m++(i,true)::o) p n b)(s:okB x k it d i=true)(e:i<2^(giving x).length)(t:Sl IntE 1 h' (some a) q (bitsL (giving x) i))
 (hle:b=false\/∀ j,Sl IntE 1 h p n (bitsL (giving x) j)->fewerF (bitsL (giving x) i) (bitsL (giving x) j)<=0):BestR h' x k it d (m++(i,false)::o) (some a) q true:=by
 refine .inr ⟨rfl,i,a,rfl,e,s,t,fun j l c f=>?_⟩;rcases mem_but c with rfl|c
 ·exact fewer_self _
 ·rcases hb with⟨h1,h2,h3,g⟩|⟨h1,u,v,h2,h3,g,h5,r⟩
  ·have:=g j l c;rw[this]at f;cases f
  ·have:=hle.resolve_left (by rw[h1];simp) u (by rw[h2];exact h5);exact H1 this (r j l c f)
theorem BestR.stay(hr:Rd h h'){e f:List (Nat×Bool)}(hb:BestR h x k it d (e++(i,true)::f) p n true)
 (hle:∀ j,Sl IntE 1 h p n (bitsL (giving x) j)->fewerF (bitsL (giving x) j) (bitsL (giving x) i)<=0):BestR h' x k it d (e++(i,false)::f) p n true:=by
 rcases hb with⟨h1,h2,h3,b⟩|⟨h1,c,g,h2,h3,b,h5,l⟩
 ·cases h1
 ·refine .inr ⟨rfl,c,g,h2,h3,b,h5.rd IntE.grow hr,fun j m a o=>?_⟩;rcases mem_but a with rfl|a
  ·exact hle c (by rw[h2];exact h5)
  ·exact l j m a o
def AllT(x:TF)(k it d:Int)(j:Nat):List (Nat×Bool):=(List.range j).map fun i=>(i,okB x k it d i)
theorem c2044{h:LH}(j1:h.chans=[])(x1:h.pend=[])(hk:Kinds h.get){f:TC}(hx:TreatyR h.get f x)(k it d:Int) :
  FW XT Tryz.prog 61 #[treatyV f x,k,it,d] h fun r h'=>Rd h.get h'.get/\h'.chans=[]/\h'.pend=[]/\h'.todo=h.todo/\NeedsR h'.get x k it d r:=by
 refine w2044 Gh ?_;refine Kg fun r hr=>?_;have n2:h.le _:=Q1 (x:=(true,.cells #[.int .i64 x.items,.int .i64 x.lands,.int .i64 x.start,.int .i64 x.depend,.int .i64 x.refuse,.int .i64 x.turn,.slice f.p f.n f.c] 38 (0,0))) hr;have hat:TAt (h.get.upd r (true,.cells #[.int .i64 x.items,.int .i64 x.lands,.int .i64 x.start,.int .i64 x.depend,.int .i64 x.refuse,.int .i64 x.turn,.slice f.p f.n f.c] 38 (0,0))) ⟨r,0,none⟩ f x :=
  ⟨Q6 rfl,Q6 rfl,Q6 rfl,Q6 rfl,Q6 rfl,Q6 rfl,Q6 rfl⟩
 generalize u3:({ h with get:=h.get.upd r (true,.cells #[.int .i64 x.items,.int .i64 x.lands,.int .i64 x.start,.int .i64 x.depend,.int .i64 x.refuse,.int .i64 x.turn,.slice f.p f.n f.c] 38 (0,0)) }:LH)=h0 at n2 ⊢;have hat:TAt h0.get ⟨r,0,none⟩ f x:=by rw[<- u3];exact hat
 refine Kg fun r1 h4=>?_;have o2:h0.le _:=Q1 (x:=(true,.cells #[.int .i64 k] 3 (0,0))) h4;have z1:Cells.cell? (h0.get.upd r1 (true,.cells #[.int .i64 k] 3 (0,0))) ⟨r1,0,none⟩=some (.int .i64 k):=Q6 rfl;refine Kg fun r2 j4=>?_;have q0:=Q1 (h:={ h0 with get:=h0.get.upd r1 (true,.cells #[.int .i64 k] 3 (0,0)) }) (x:=(true,.cells #[.int .i64 it] 3 (0,0))) j4;have z2:Cells.cell? ((h0.get.upd r1 (true,.cells #[.int .i64 k] 3 (0,0))).upd r2 (true,.cells #[.int .i64 it] 3 (0,0))) ⟨r2,0,none⟩=some (.int .i64 it):=Q6 rfl;refine Kg fun r3 k4=>?_;have W:=Q1 (h:={ h0 with get:=(h0.get.upd r1 (true,.cells #[.int .i64 k] 3 (0,0))).upd r2 (true,.cells #[.int .i64 it] 3 (0,0)) }) (x:=(true,.cells #[.int .i64 d] 3 (0,0))) k4;have z3:Cells.cell? (((h0.get.upd r1 (true,.cells #[.int .i64 k] 3 (0,0))).upd r2 (true,.cells #[.int .i64 it] 3 (0,0))).upd r3 (true,.cells #[.int .i64 d] 3 (0,0))) ⟨r3,0,none⟩=some (.int .i64 d):=Q6 rfl;have z1:=Qo (LH.le_trans q0 W).1 z1;have z2:=Qo W.1 z2;have hat:=hat.le (LH.le_trans o2 (LH.le_trans q0 W)).1;obtain⟨g0,g1,g2,g3,g4,g5,g6⟩:=id hat;have g:=LH.le_trans n2 (LH.le_trans o2 (LH.le_trans q0 W));generalize n1:({ h0 with get:=((h0.get.upd r1 (true,.cells #[.int .i64 k] 3 (0,0))).upd r2 (true,.cells #[.int .i64 it] 3 (0,0))).upd r3 (true,.cells #[.int .i64 d] 3 (0,0)) }:LH)=h3 at g ⊢;have e3:h3.get=((h0.get.upd r1 (true,.cells #[.int .i64 k] 3 (0,0))).upd r2 (true,.cells #[.int .i64 it] 3 (0,0))).upd r3 (true,.cells #[.int .i64 d] 3 (0,0)):=by rw[<- n1]
 rw[<- e3]at z1 z2 z3 hat g0 g1 g2 g3 g4 g5 g6;clear n1 e3;refine gZ ?_;refine t_pu (c2066 (hk.le g.1) (hx.le g.1) k it d) ?_;refine yI (fun e=>?_) (fun e=>?_)
 ·exact Qh ⟨Jj g.1,by rw[g.2.1,j1],by rw[g.2.2.1,x1],g.2.2.2,.inl ⟨by simpa using e,rfl⟩⟩
 have ea:Jr x k it d=0:=by simpa using e
 have m1:=(G5 (askedItem_ok (askedAll_ok ea).1).1).1;have rt:=Right.of m1;have o1:=KindsOk.of m1;have q4:=giving_ten rt;refine gZ ?_;refine t_gr (c2067 (hk.le g.1) (hx.le g.1) o1 rt.many) ?_;rintro _ m4 l4 ⟨ap,an,ac,rfl,S,_⟩;have o3:=S.1;refine gZ ?_;refine t_newSt2 rfl fun r4 Q x2 _ _ z0=>?_;have u2:=LH.le_trans l4 x2;refine Ja (fun vs h'=>∃ b1 b2 D E,vs=[.pointer (some ⟨b1,0,none⟩),.pointer (some ⟨b2,0,none⟩)]/\Opening 154 206 Q h' (some D) (some E) (some (b1,true)) (some (b2,true))) ?_ ?_
 ·have O:Opening 154 206 Q Q none none none none:=Opening.start
  repeat' first
   | refine Zr ?_ ?_
   | (refine op_new1 (by assumption) ?_;intro _ _ _)
   | (refine op_new2 (by assumption) ?_;intro _ _ _)
   | (refine op_chan1 undCI inf50 (by assumption) ?_;intro _ _ _)
   | (refine op_chan2 undCB inf4 (by assumption) ?_;intro _ _ _)
   | refine t_unC ?_
   | (refine op_store1 (by assumption) ?_;intro _ _)
   | (refine op_store2 (by assumption) ?_;intro _ _)
   | exact Qj ⟨_,_,_,_,rfl,by assumption⟩
 rintro _ F ⟨b1,b2,D,E,rfl,O⟩;have s0:=O.le;have A:=LH.le_trans u2 s0;have t:=LH.le_trans g A;have z0:=Qo s0.1 z0;have z1:=Qo A.1 z1;have z2:=Qo A.1 z2;have z3:=Qo A.1 z3;have hat:=hat.le A.1;have S:=S.le IntE.grow (LH.le_trans x2 s0).1;have k3:F.get.cell? ⟨b1,0,none⟩=some (.chan (some D)):=by
  have:=(O.hb1 b1 true rfl).2;simp[Cells.cell?,this]
 have l3:F.get.cell? ⟨b2,0,none⟩=some (.chan (some E)):=by
  have:=(O.hb2 b2 true rfl).2;simp[Cells.cell?,this]
 have hq:=O.ne D E rfl rfl;have y3:=O.hc1 D rfl;have a4:=O.hc2 E rfl;refine gZ ?_;rw[sets_wrap (by omega)];have e0:2^an<=2^10:=Nat.pow_le_pow_right (by omega) (by omega);have n3:(2:Nat)^an=2^(giving x).length:=by rw[o3]
 have I:0<2^an:=Nat.pow_pos (by omega);generalize hN:(2:Nat)^an=N at e0 n3 I ⊢;refine gZ ?_;refine Je (fun mm vs h'=>∃ j:Nat,vs=[.int .i64 j]/\j<=N/\mm=N-j/\Rd F.get h'.get/\h'.todo=h.todo/\h'.pend=(AllT x k it d j).map (scr D E (Found x) Done)/\Hand2 D E h'/\(0<j->h'.chans=[E,D]))
  ⟨0,rfl,Nat.zero_le _,rfl,Rd.refl _,t.2.2.2,by rw[t.2.2.1,x1];rfl,.inl ⟨by rw[t.2.1,j1],hq,⟨0,y3⟩,0,a4⟩,fun hh=>absurd hh (by omega)⟩ ?_
 rintro Y mm vs o4 hY ⟨j,rfl,hj,rfl,b3,j3,u0,j0,m3⟩;refine yJ (fun e1=>?_) (fun e1=>?_)
 ·refine t_newSt2 rfl fun r5 w R _ _ z5=>?_;have B:=b3.trans (Jj R.1);refine t_spawn (spawnW_two D E (s:=scr D E (Found x) Done (j,okB x k it d j)) (by rw[R.2.2.1,u0];intro hm;obtain⟨z,_,hz⟩:=List.mem_map.1 hm;unfold scr at hz;split at hz<;>cases hz) (j0.le R) ?_ ?_ (fun hc y1=>?_) (fun G r9 c9 t9 p9=>?_))
  ·unfold scr;split<;>simp
  ·intro y hy;unfold scr at hy;split at hy
   ·simp at hy;rcases hy with rfl|rfl<;>simp
   ·simp at hy;simp[hy]
  ·have m:=B.trans y1;exact c2073 ((hk.le t.1).rd m) ((hx.le t.1).rd m) rt o1 (hat.rd m) (by omega) (m _ _ z0) (S.rd IntE.grow m) (y1 _ _ z5) (m _ _ z1) (m _ _ z2) (m _ _ z3) (m _ _ k3) (m _ _ l3)
  ·refine Qj (hY (N-(j+1)) _ _ (by omega) ⟨j+1,?_,by omega,rfl,B.trans r9,(t9.trans R.2.2.2).trans j3,?_,.inr c9,fun _=>c9⟩)
   ·rw[Qm (by omega) (by omega)];rfl
   ·rw[p9,R.2.2.1,u0,AllT,AllT,List.range_succ,List.map_append,List.map_append];rfl
 ·refine gZ ?_;have v3:j=N:=by omega
  subst v3;refine Je (fun mm vs h'=>∃ (rem:List (Nat×Bool)) (b:Bool) (p:Option Addr) (n c:Nat),vs=[.slice p n c,.bool b,.int .i64 rem.length]/\rem.length<=j/\mm=(rem.map weight).sum/\(∀ i o,(i,o)∈rem->i<j)/\(∀ i,(i,true)∈rem->okB x k it d i=true)/\Rd F.get h'.get/\h'.todo=h.todo/\h'.pend=rem.map (scr D E (Found x) Done) /\
    ((rem≠[]/\h'.chans=[E,D])\/(rem=[]/\h'.chans=[]))/\BestR h'.get x k it d rem p n b/\n<=c/\(b=false->c=0))
   ⟨AllT x k it d j,false,none,0,0,by simp[AllT],by simp[AllT],rfl,?_,?_,b3,j3,u0,.inl ⟨?_,m3 I⟩,.inl ⟨rfl,rfl,rfl,?_⟩,Nat.le_refl _,fun _=>rfl⟩ ?_
  ·intro i o X;simp[AllT]at X;omega
  ·intro i X;simp[AllT]at X;exact(by obtain⟨a0,a1,a2,a3⟩:=X;rw[<- a2];exact a3)
  ·intro hh;have:=congrArg List.length hh;simp[AllT]at this;omega
  ·intro i X hn;cases ho:okB x k it d i with
   | false=>rfl
   | true=>exact absurd (List.mem_map.2 ⟨i,List.mem_range.2 (by omega),by rw[ho]⟩) hn
  rintro Y2 mm vs w x0 ⟨rem,b,p,n,c,rfl,hlen,rfl,u,n0,B,w0,y2,Z,q,J,y0⟩;refine yJ (fun e2=>?_) (fun e2=>?_)
  ·have p1:rem≠[]:=by rintro rfl;simp at e2
   have k0:w.chans=[E,D]:=by
    rcases Z with⟨_,a⟩|⟨a,_⟩
    ·exact a
    ·exact absurd a p1
   refine Ua (B _ _ k3) ?_;refine Ua (B _ _ l3) ?_;refine Y4 (commW_sel (φ:=Found x) (ψ:=Done) y2 k0 hq p1 ?_ ?_)
   ·rintro U i V v G C ht o0 s3 ⟨hv,⟨a,n',c',rfl,M,K⟩,hle⟩ L;have m0:commResult #[Conc.rcase D (.slice none 0 0),Conc.rcase E (.bool false)] .select ((0:Nat):Int) (.slice (some a) n' c') true=.tuple #[.int .i64 0,.bool true,.slice (some a) n' c',.bool false]:=by simp[commResult,Conc.rcase,goInt]
    rw[m0];subst C;have H:=Jj L;have M:=M.rd IntE.grow (Jj hle);have X:i<2^(giving x).length:=by have:=u i true (by simp);omega
    have u1:okB x k it d i=true:=n0 i (by simp);have next:∀ p' n' c',BestR G.get x k it d (U++(i,false)::V) p' n' true->n'<=c'->Y2 [.slice p' n' c',.bool true,.int .i64 ((U++(i,true)::V).length:Nat)] G:=by
     intro p' n' c' hb l0;refine x0 (((U++(i,false)::V).map weight).sum) _ _ (by simp[weight]) ⟨U++(i,false)::V,true,p',n',c',by simp,by simpa using hlen,rfl,?_,?_,B.trans H,ht.trans w0,o0,.inl ⟨by simp,s3⟩,hb,l0,fun h=>by cases h⟩
     ·intro i' o l;simp only[List.mem_append,List.mem_cons,Prod.mk.injEq]at l;rcases l with h1|h1|h1
      ·exact u i' o (by simp[h1])
      ·rw[h1.1];exact u i true (by simp)
      ·exact u i' o (by simp[h1])
     ·intro i' l;simp at l;exact n0 i' (by rcases l with h1|h1<;>simp[h1])
    refine yT ?_;refine Qt (fun e3=>?_) (fun e3=>?_)
    ·exact Qj (next _ _ _ (q.take u1 X M (.inl (by simpa using e3))) K)
    ·have q3:b=true:=by simpa using e3
     subst q3;obtain⟨k',a',x3,j2⟩ : ∃ k' a',p=some a'/\Sl IntE 1 w.get (some a') n (bitsL (giving x) k'):=by
      rcases q with⟨b1,_⟩|⟨_,k',a',b1,_,_,b4,_⟩
      ·cases b1
      ·exact⟨k',a',b1,b4⟩
     subst x3;refine t_pu (c2074 M (j2.rd IntE.grow H)) ?_;have same:∀ k2,Sl IntE 1 w.get (some a') n (bitsL (giving x) k2)->bitsL (giving x) k2=bitsL (giving x) k':=fun k2 h3=>Sl.same h3 j2;refine yJ (fun e4=>?_) (fun e4=>?_)
     ·refine Qj (next _ _ _ (q.take u1 X M (.inr fun k2 h3=>?_)) K);rw[same k2 h3];omega
     ·refine Qj (next _ _ _ (q.stay H fun k2 h3=>?_) J);rw[same k2 h3,Ux];omega
   ·intro U i V v G C ht o0 m2 ⟨hv,P⟩ L;have P:v=.bool true:=P;subst P;have m0:commResult #[Conc.rcase D (.slice none 0 0),Conc.rcase E (.bool false)] .select ((1:Nat):Int) (.bool true) true=.tuple #[.int .i64 1,.bool true,.slice none 0 0,.bool true]:=by simp[commResult,Conc.rcase,goInt]
    rw[m0];subst C;have H:=Jj L;have hl:(U++(i,false)::V).length=(U++V).length+1:=by simp;omega
    refine gZ ?_;refine Qj (x0 (((U++V).map weight).sum) _ _ (by simp[weight]) ⟨U++V,b,p,n,c,?_,by omega,rfl,?_,?_,B.trans H,ht.trans w0,o0,m2,(q.drop).rd H,J,y0⟩)
    ·rw[hl,Qm (by omega) (by omega)];congr 3;congr 1;omega
    ·intro i' o l;simp only[List.mem_append]at l;exact u i' o (by rcases l with h1|h1<;>simp[h1])
    ·intro i' l;simp only[List.mem_append]at l;exact n0 i' (by rcases l with h1|h1<;>simp[h1])
  ·refine gZ ?_;have p0:rem=[]:=List.length_eq_zero_iff.1 (by omega);subst p0;have k0:w.chans=[]:=by
    rcases Z with⟨a,_⟩|⟨_,a⟩
    ·exact absurd rfl a
    ·exact a
   refine Qh ⟨(Jj t.1).trans B,k0,y2,w0,.inr ?_⟩;rcases q.done rt.ok with⟨a1,rfl,rfl,rfl⟩|⟨a1,rfl,a2⟩
   ·have:=y0 rfl;subst this;exact .inl ⟨ea,a1,rfl⟩
   ·exact .inr ⟨ea,a1,_,_,_,rfl,a2,J⟩
end
section
open Go.TM.Tr
attribute [local irreducible] T.wp CV FWK
variable {h:LH}{p q:Option Addr}{n c m d:Nat}
theorem c2020{a b:List Bool}(f:Sl BoolE 1 h.get p n a)(hb:Sl BoolE 1 h.get q m b):Pu Tryz.prog 62 #[.slice p n c,.slice q m d] h (.bool (decide (a=b))):=by
 refine w2020 Qr ?_;have C:=f.1;have hm:=hb.1;have v:=f.2.1;have u:=hb.2.1;refine Qt (fun e=>?_) (fun e=>?_)
 ·have:a≠b:=by rintro rfl;simp at e;omega
  exact Qh ⟨by simp[this],rfl⟩
 have w:n=m:=by simp at e;omega
 refine Je (fun o vs h'=>h=h'/\∃ i:Nat,vs=[.bool false,.int .i64 i]/\i<=n/\o=n-i/\a.take i=b.take i) ⟨rfl,0,rfl,Nat.zero_le _,rfl,rfl⟩ ?_;rintro Y o vs _ r ⟨rfl,i,rfl,B,rfl,hc⟩;refine yJ (fun e=>?_) (fun e=>?_)
 ·obtain⟨x,z,l,s,j⟩:=f.at (i:=i) (by omega);obtain⟨y,A,g,t,k⟩:=hb.at (i:=i) (by omega);unfold BoolE at j k;rw[G6]at j k;refine yI (fun b1=>?_) (fun b1=>?_)
  ·refine gZ ?_;have:a≠b:=by rintro rfl;rw[l]at g;cases g;simp at b1
   exact Qh ⟨by simp[this],rfl⟩
  ·have b2:x=y:=by cases x<;>cases y<;>simp_all
   refine Qj (r (n-(i+1)) _ _ (by omega) ⟨rfl,i+1,?_,by omega,rfl,?_⟩)
   ·rw[Qm (by omega) (by omega)];rfl
   ·rw[List.take_add_one,List.take_add_one,hc,l,g,b2]
 ·refine gZ ?_;rw[List.take_of_length_le (by omega),List.take_of_length_le (by omega)]at hc;exact Qh ⟨by simp[hc],rfl⟩
theorem c2025{a b:List Sp}(f:Sl SpE 2 h.get p n a)(hb:Sl SpE 2 h.get q m b):Pu Tryz.prog 55 #[.slice p n c,.slice q m d] h (.bool (decide (a=b))):=by
 refine w2025 Qr ?_;have E:=f.1;have hm:=hb.1;have t:=f.2.1;have s:=hb.2.1;refine Qt (fun e=>?_) (fun e=>?_)
 ·have:a≠b:=by rintro rfl;simp at e;omega
  exact Qh ⟨by simp[this],rfl⟩
 have u:n=m:=by simp at e;omega
 refine Je (fun k vs h'=>h=h'/\∃ i:Nat,vs=[.bool false,.int .i64 i]/\i<=n/\k=n-i/\a.take i=b.take i) ⟨rfl,0,rfl,Nat.zero_le _,rfl,rfl⟩ ?_;rintro Y k vs _ l ⟨rfl,i,rfl,D,rfl,hc⟩;refine yJ (fun e=>?_) (fun e=>?_)
 ·obtain⟨x,v,j,o,z,B⟩:=f.at (i:=i) (by omega);obtain⟨y,w,g,r,A,C⟩:=hb.at (i:=i) (by omega);refine gZ ?_;refine t_ne2 two30 g30 ?_;refine yI (fun b1=>?_) (fun b1=>?_)
  ·refine gZ ?_;have:a≠b:=by rintro rfl;rw[j]at g;cases g;simp at b1
   exact Qh ⟨by simp[this],rfl⟩
  ·have b2:x=y:=by obtain⟨F,G⟩:=x;obtain⟨H,I⟩:=y;simp at b1;simp[b1]
   refine Qj (l (n-(i+1)) _ _ (by omega) ⟨rfl,i+1,?_,by omega,rfl,?_⟩)
   ·rw[Qm (by omega) (by omega)];rfl
   ·rw[List.take_add_one,List.take_add_one,hc,j,g,b2]
 ·refine gZ ?_;rw[List.take_of_length_le (by omega),List.take_of_length_le (by omega)]at hc;exact Qh ⟨by simp[hc],rfl⟩
end
end Go.Y.Tre
section
namespace Go.Y
set_option maxHeartbeats 0
set_option linter.unusedVariables false
variable {X:XP} {h:LH} {A:Value->LH->Prop}
variable {a b c d e f g i j k l m:Int}{n o p q r s t u v w x y z:Nat}{B C D E F G H I J K L M:Option Addr}
theorem w2016:FX X 14 #[.agg #[a,b,c,d,e,f,.slice B n o]] h A (bif decide ((↑n:Int)>20) then .rt (.bool true) else .loop [false,.int .i64 0] (fun g=>.popB g fun j g=>.pi g fun i g=>.unNil g (bif decide (i<(↑n:Int)) then .need (0<=i/\i<(↑n:Int)) (.someA B fun k=>.loadS ((k.add (i.toNat*5)).add 3) fun p l m=>bif decide ((↑l:Int)>20) then .rn [true,i] else .ag [j,.int .i64 (wrap .i64 (i+1))]) else .bk [j,i])) (fun g=>.popB g fun j g=>.pi g fun i g=>.unNil g (.rt (.bool false))) (fun g=>.popB g fun j g=>.pi g fun i g=>.unNil g (.rt (.bool j))) fun q r=>.fail):=fk [1] [⟨0,[(2,.bool),(3,.int .i64)],[1],[],[],[]⟩] [] Tryz.f14
theorem w2017  : FX X 15 #[] h A (.cl 56 #[] fun b=>.unAgg b fun g=>.pi g fun c a=>.pi a fun i a=>.pi a fun j a=>.pi a fun k a=>.pi a fun l a=>.pi a fun m a=>.popS a fun d n e a=>.unNil a (.cT 57 #[.agg #[c,i,j,k,l,m,.slice d n e],.int .i64 0,.int .i64 15] fun b a=>.unS b fun t r0 L=>.unCons a fun b a=>.ui b fun s0=>.unNil a (.cT 57 #[.agg #[c,i,j,k,l,m,.slice d n e],.int .i64 1,.int .i64 40] fun b a=>.unS b fun y t0 R=>.unCons a fun b a=>.ui b fun a0=>.unNil a (.cT 58 #[.agg #[c,i,j,k,l,m,.slice d n e],.int .i64 0,.int .i64 18] fun b a=>.unS b fun z b0 S=>.unCons a fun b a=>.ui b fun c0=>.unNil a (.cT 58 #[.agg #[c,i,j,k,l,m,.slice d n e],.int .i64 0,.int .i64 44] fun b a=>.unS b fun B d0 U=>.unCons a fun b a=>.ui b fun e0=>.unNil a (.cT 59 #[.agg #[c,i,j,k,l,m,.slice d n e],.int .i64 0,.int .i64 0] fun b a=>.unS b fun C f0 V=>.unCons a fun b a=>.ui b fun g0=>.unNil a (.cT 59 #[.agg #[c,i,j,k,l,m,.slice d n e],.int .i64 0,.int .i64 1] fun b a=>.unS b fun D i0 W=>.unCons a fun b a=>.ui b fun j0=>.unNil a (.cT 60 #[.agg #[c,i,j,k,l,m,.slice d n e],.int .i64 1,.int .i64 45] fun b a=>.unS b fun E k0 Y=>.unCons a fun b a=>.ui b fun l0=>.unNil a (.cT 60 #[.agg #[c,i,j,k,l,m,.slice d n e],.int .i64 1,.int .i64 46] fun b a=>.unS b fun x0 m0 y0=>.unCons a fun b a=>.ui b fun o0=>.unNil a (.cT 61 #[.agg #[c,i,j,k,l,m,.slice d n e],.int .i64 0,.int .i64 0,.int .i64 44] fun b a=>.unS b fun d c e=>.unCons a fun b a=>.unB b fun f=>.unCons a fun b a=>.ui b fun p0=>.unNil a (.blk (bif s0 != 0 then .rn [false] else bif a0 != 0 then .rn [false] else bif c0 != 0 then .rn [false] else bif e0 != 0 then .rn [false] else bif g0 != 0 then .rn [false] else bif j0 != 0 then .rn [false] else bif l0 != 0 then .rn [false] else bif o0 != 0 then .rn [false] else bif p0 != 0 then .rn [false] else .ag [false]) (fun a=>.popB a fun G a=>.unNil a (.blk (.sem false (Instr.buildSlice 122 3 #[(0,.bool true),(1,.bool false),(2,.bool true)]) fun b=>.unS b fun F o Z=>.cB 62 #[.slice t r0 L,.slice F o Z] fun H=>bif !H then .rn [false] else .sem false (Instr.buildSlice 122 3 #[(0,.bool false),(1,.bool true),(2,.bool false)]) fun b=>.unS b fun u p M=>.cB 62 #[.slice y t0 R,.slice u p M] fun I=>bif !I then .rn [false] else .sem false (Instr.buildSlice 47 3 #[(0,.int .i64 3),(1,.int .i64 (-1)),(2,.int .i64 12)]) fun b=>.unS b fun v q N=>.cB 30 #[.slice z b0 S,.slice v q N] fun J=>bif !J then .rn [false] else .sem false (Instr.buildSlice 47 3 #[(0,.int .i64 3),(1,.int .i64 12),(2,.int .i64 (-1))]) fun b=>.unS b fun w r O=>.cB 30 #[.slice B d0 U,.slice w r O] fun K=>bif !K then .rn [false] else bif !f then .rn [false] else .sem false (Instr.buildSlice 47 2 #[(0,.int .i64 0),(1,.int .i64 5)]) fun b=>.unS b fun x s Q=>.cB 30 #[.slice d c e,.slice x s Q] fun f=>bif !f then .rn [false] else .ag [G]) (fun a=>.popB a fun f a=>.unNil a (.cl 63 #[.int .i64 12,.int .i64 39] fun b=>.unAgg b fun g=>.pi g fun c a=>.pi a fun o a=>.unNil a (.cl 63 #[.int .i64 44,.int .i64 9999] fun b=>.unAgg b fun g=>.pi g fun p a=>.pi a fun q a=>.unNil a (.sem false (Instr.buildSlice 22 2 #[(0,.agg #[c,o]),(1,.agg #[p,q])]) fun b=>.unS b fun d c e=>.cB 55 #[.slice C f0 V,.slice d c e] fun f=>bif f then .cl 63 #[.int .i64 12,.int .i64 14] fun b=>.unAgg b fun g=>.pi g fun c a=>.pi a fun r a=>.unNil a (.cl 63 #[.int .i64 25,.int .i64 9999] fun b=>.unAgg b fun g=>.pi g fun s a=>.pi a fun q0 a=>.unNil a (.sem false (Instr.buildSlice 22 2 #[(0,.agg #[c,r]),(1,.agg #[s,q0])]) fun b=>.unS b fun d c e=>.cB 55 #[.slice D i0 W,.slice d c e] fun f=>bif f then .sem false (Instr.buildSlice 47 1 #[(0,.int .i64 0)]) fun b=>.unS b fun d c e=>.cB 30 #[.slice E k0 Y,.slice d c e] fun f=>bif f then .rt (.bool ((↑m0:Int)==0)) else .rt (.bool false) else .rt (.bool false))) else .rt (.bool false))))) (fun a=>.popB a fun f a=>.unNil a (.rt (.bool f))) fun u0 v0=>.fail)) (fun a=>.popB a fun f a=>.unNil a (.rt (.bool f))) fun u0 v0=>.fail))))))))))):=fk [1] [] [⟨15,[(0,.bool)],[1],[],[],[]⟩,⟨13,[(0,.bool)],[1],[],[],[]⟩] Tryz.f15
theorem w2048  : FX X 56 #[] h A (.sem false (Instr.buildSlice 47 3 #[(0,.int .i64 0),(1,.int .i64 1),(2,.int .i64 2)]) fun a=>.unS a fun b d c=>.sem false (Instr.buildSlice 47 1 #[(0,.int .i64 1)]) fun a=>.unS a fun e x o=>.sem false (Instr.buildSlice 47 1 #[(0,.int .i64 1)]) fun a=>.unS a fun f y p=>.sem false (Instr.buildSlice 47 1 #[(0,.int .i64 2)]) fun a=>.unS a fun g z q=>.sem false (Instr.buildSlice 47 1 #[(0,.int .i64 0)]) fun a=>.unS a fun i B r=>.sem false (Instr.buildSlice 47 1 #[(0,.int .i64 0)]) fun a=>.unS a fun j C s=>.sem false (Instr.buildSlice 47 2 #[(0,.int .i64 0),(1,.int .i64 1)]) fun a=>.unS a fun k D t=>.sem false (Instr.buildSlice 47 1 #[(0,.int .i64 1)]) fun a=>.unS a fun l E u=>.sem false (Instr.buildSlice 47 1 #[(0,.int .i64 1)]) fun a=>.unS a fun m F v=>.sem false (Instr.buildSlice 47 1 #[(0,.int .i64 0)]) fun a=>.unS a fun n G w=>.sem false (Instr.buildSlice 36 10 #[(0,.agg #[.int .i64 0,.int .i64 12,.int .i64 0,.slice b d c,.int .i64 0]),(1,.agg #[.int .i64 1,.int .i64 15,.int .i64 0,.slice e x o,.int .i64 0]),(2,.agg #[.int .i64 2,.int .i64 25,.int .i64 0,.slice f y p,.int .i64 0]),(3,.agg #[.int .i64 3,.int .i64 22,.int .i64 0,.slice g z q,.int .i64 0]),(4,.agg #[.int .i64 4,.int .i64 40,.int .i64 0,.slice i B r,.int .i64 30]),(5,.agg #[.int .i64 5,.int .i64 44,.int .i64 0,.slice j C s,.int .i64 0]),(6,.agg #[.int .i64 0,.int .i64 20,.int .i64 1,.slice k D t,.int .i64 0]),(7,.agg #[.int .i64 1,.int .i64 27,.int .i64 1,.slice l E u,.int .i64 0]),(8,.agg #[.int .i64 4,.int .i64 50,.int .i64 0,.slice m F v,.int .i64 31]),(9,.agg #[.int .i64 6,.int .i64 18,.int .i64 0,.slice n G w,.int .i64 3])]) fun a=>.unS a fun b d c=>.rt (.agg #[.int .i64 3,.int .i64 2,.int .i64 10,.int .i64 20,.int .i64 6,.int .i64 5,.slice b d c])):=fk [0] [] [] Tryz.f56
theorem w2049:FX X 63 #[a,b] h A (.rt (.agg #[a,b])):=fk [4] [] [] Tryz.f63
end Go.Y
end
section
namespace Go.Y.Tre
open Go.TM.Tr
attribute [local irreducible] T.wp CV FWK
def bigB(x:TF):Bool:=decide (20<x.events.length)||x.events.any fun e=>decide (20<e.items.length)
variable {h:LH}
theorem c2016{f:TC}{x:TF}(b:TreatyR h.get f x):Pu Tryz.prog 14 #[treatyV f x] h (.bool (bigB x)):=by
 refine w2016 Qr ?_;have w:=b.2.1;have hb:=b.2.2.1;refine t_if (fun e=>?_) (fun e=>?_)
 ·exact Qh ⟨by rw[bigB,decide_eq_true (by omega)];rfl,rfl⟩
 have h0:bigB x=x.events.any fun e=>decide (20<e.items.length):=by rw[bigB,decide_eq_false (by omega)];rfl
 refine Je (fun d vs h'=>h=h'/\∃ j:Nat,vs=[.bool false,.int .i64 j]/\j<=f.n/\d=f.n-j/\bigB x=(x.events.drop j).any fun e=>decide (20<e.items.length)) ⟨rfl,0,rfl,Nat.zero_le _,rfl,h0⟩ ?_;rintro Y d vs _ l ⟨rfl,j,rfl,v,rfl,hc⟩;refine yJ (fun g=>?_) (fun g=>?_)
 ·obtain⟨y,a,o,u,p,r,s,⟨q,m,c,t,_,g5⟩,g4⟩:=b.2.at (i:=j) (by omega);rw[Jy o,List.any_cons]at hc;have hm:=g5.1;refine yJ (fun k=>?_) (fun k=>?_)
  ·refine gZ ?_;rw[decide_eq_true (by omega),Bool.true_or]at hc;exact Qh ⟨by rw[hc],rfl⟩
  ·rw[decide_eq_false (by omega),Bool.false_or]at hc;refine Qj (l (f.n-(j+1)) _ _ (by omega) ⟨rfl,j+1,?_,by omega,rfl,hc⟩);rw[Qm (by omega) (by omega)];rfl
 ·refine gZ ?_;rw[List.drop_eq_nil_of_le (by omega)]at hc;exact Qh ⟨by rw[hc];rfl,rfl⟩
theorem c2049(a b:Int):Pu Tryz.prog 63 #[a,b] h (.agg #[a,b]):=by
 refine w2049 Qr ?_;exact Qh ⟨rfl,rfl⟩
section
variable {X:XP} {Q:Leaf->LH->Prop} {h:LH} {n:Nat} {parts:Array (Nat×Value)} {k:Value->T}
theorem t_ints(l:List Int)(e:n*1<=2^24)(d:l.length=n)(a:n*1≠0)
 (b:Instr.fill (fun i=>some (i*1,1)) ((Array.range (n*1)).map ((Value.int .i64 0).cells[·%(Value.int .i64 0).cells.size]!)) parts.toList=some (l.map (Value.int .i64)).toArray)
 (c:∀ r h',h.le h'->Sl IntE 1 h'.get (some ⟨r,0,none⟩) n l->(k (.slice (some ⟨r,0,none⟩) n n)).wp X Tryz.prog Q h'):(T.sem false (Instr.buildSlice 47 n parts) k).wp X Tryz.prog Q h:=by
 refine Zg (l.map (Value.int .i64)) und50 inf3 e a b fun r h' le _ hc=>c r h' le ?_;refine⟨d.symm,by omega,fun i x f=>⟨_,rfl,?_⟩⟩;unfold IntE;rw[Nat.mul_one];exact hc i _ (by rw[List.getElem?_map,f];rfl)
theorem t_bools(l:List Bool)(e:n*1<=2^24)(d:l.length=n)(a:n*1≠0)
 (b:Instr.fill (fun i=>some (i*1,1)) ((Array.range (n*1)).map ((Value.bool false).cells[·%(Value.bool false).cells.size]!)) parts.toList=some (l.map Value.bool).toArray)
 (c:∀ r h',h.le h'->Sl BoolE 1 h'.get (some ⟨r,0,none⟩) n l->(k (.slice (some ⟨r,0,none⟩) n n)).wp X Tryz.prog Q h'):(T.sem false (Instr.buildSlice 122 n parts) k).wp X Tryz.prog Q h:=by
 refine Zg (l.map Value.bool) undBs inf4 e a b fun r h' le _ hc=>c r h' le ?_;refine⟨d.symm,by omega,fun i x f=>⟨_,rfl,?_⟩⟩;unfold BoolE;rw[Nat.mul_one,G6];exact hc i _ (by rw[List.getElem?_map,f];rfl)
end
theorem sp_two{h:Cells}{r:Nat}{a b:Sp}(hc:∀ (j:Nat) w,[Value.int .i64 a.first,.int .i64 a.last,.int .i64 b.first,.int .i64 b.last][j]?=some w->h.cell? (Addr.add ⟨r,0,none⟩ j)=some w):Sl SpE 2 h (some ⟨r,0,none⟩) 2 [a,b]:=by
 refine⟨rfl,by simp,fun i x c=>⟨_,rfl,?_⟩⟩
 match i,c with
 | 0,c=>cases c;exact⟨hc 0 _ rfl,hc 1 _ rfl⟩
 | 1,c=>cases c;exact⟨by rw[Qa,Qa];exact hc 2 _ rfl,by rw[Qa,Qa];exact hc 3 _ rfl⟩
 | i+2,c=>simp at c
def exT:TF:=⟨3,2,10,20,6,5,[⟨0,12,0,[0,1,2],0⟩,⟨1,15,0,[1],0⟩,⟨2,25,0,[1],0⟩,⟨3,22,0,[2],0⟩,⟨4,40,0,[0],30⟩,⟨5,44,0,[0],0⟩,⟨0,20,1,[0,1],0⟩,⟨1,27,1,[1],0⟩,⟨4,50,0,[1],31⟩,⟨6,18,0,[0],3⟩]⟩
theorem c2048:Gr Tryz.prog 56 #[] h fun r h'=>∃ f,r=treatyV f exT/\TreatyR h'.get f exT:=by
 refine w2048 Qr ?_;refine t_ints [0,1,2] (by decide) rfl (by decide) (by kernel_rfl) fun r0 h0 B s=>?_;refine gZ ?_;refine t_ints [1] (by decide) rfl (by decide) (by kernel_rfl) fun r1 h1 z s1=>?_;refine gZ ?_;refine t_ints [1] (by decide) rfl (by decide) (by kernel_rfl) fun r2 h2 q s2=>?_;refine gZ ?_;refine t_ints [2] (by decide) rfl (by decide) (by kernel_rfl) fun r3 h3 k t=>?_;refine gZ ?_;refine t_ints [0] (by decide) rfl (by decide) (by kernel_rfl) fun r4 D i u=>?_;refine gZ ?_;refine t_ints [0] (by decide) rfl (by decide) (by kernel_rfl) fun r5 h5 g w=>?_;refine gZ ?_;refine t_ints [0,1] (by decide) rfl (by decide) (by kernel_rfl) fun l E d s6=>?_;refine gZ ?_;refine t_ints [1] (by decide) rfl (by decide) (by kernel_rfl) fun m F c s7=>?_;refine gZ ?_;refine t_ints [1] (by decide) rfl (by decide) (by kernel_rfl) fun n G b s8=>?_;refine gZ ?_;refine t_ints [0] (by decide) rfl (by decide) (by kernel_rfl) fun o y a C=>?_;refine gZ ?_;have s:=s.le IntE.grow (LH.le_trans z (LH.le_trans q (LH.le_trans k (LH.le_trans i (LH.le_trans g (LH.le_trans d (LH.le_trans c (LH.le_trans b (a))))))))).1;have s1:=s1.le IntE.grow (LH.le_trans q (LH.le_trans k (LH.le_trans i (LH.le_trans g (LH.le_trans d (LH.le_trans c (LH.le_trans b (a)))))))).1;have s2:=s2.le IntE.grow (LH.le_trans k (LH.le_trans i (LH.le_trans g (LH.le_trans d (LH.le_trans c (LH.le_trans b (a))))))).1;have t:=t.le IntE.grow (LH.le_trans i (LH.le_trans g (LH.le_trans d (LH.le_trans c (LH.le_trans b (a)))))).1;have u:=u.le IntE.grow (LH.le_trans g (LH.le_trans d (LH.le_trans c (LH.le_trans b (a))))).1;have w:=w.le IntE.grow (LH.le_trans d (LH.le_trans c (LH.le_trans b (a)))).1;have s6:=s6.le IntE.grow (LH.le_trans c (LH.le_trans b (a))).1;have s7:=s7.le IntE.grow (LH.le_trans b (a)).1;have s8:=s8.le IntE.grow (a).1;have p:h.le y:=LH.le_trans B (LH.le_trans z (LH.le_trans q (LH.le_trans k (LH.le_trans i (LH.le_trans g (LH.le_trans d (LH.le_trans c (LH.le_trans b (a)))))))));refine Dc undEvs infEv (by decide) (by decide) (cells:=#[.int .i64 0,.int .i64 12,.int .i64 0,.slice (some ⟨r0,0,none⟩) 3 3,.int .i64 0,.int .i64 1,.int .i64 15,.int .i64 0,.slice (some ⟨r1,0,none⟩) 1 1,.int .i64 0,.int .i64 2,.int .i64 25,.int .i64 0,.slice (some ⟨r2,0,none⟩) 1 1,.int .i64 0,.int .i64 3,.int .i64 22,.int .i64 0,.slice (some ⟨r3,0,none⟩) 1 1,.int .i64 0,.int .i64 4,.int .i64 40,.int .i64 0,.slice (some ⟨r4,0,none⟩) 1 1,.int .i64 30,.int .i64 5,.int .i64 44,.int .i64 0,.slice (some ⟨r5,0,none⟩) 1 1,.int .i64 0,.int .i64 0,.int .i64 20,.int .i64 1,.slice (some ⟨l,0,none⟩) 2 2,.int .i64 0,.int .i64 1,.int .i64 27,.int .i64 1,.slice (some ⟨m,0,none⟩) 1 1,.int .i64 0,.int .i64 4,.int .i64 50,.int .i64 0,.slice (some ⟨n,0,none⟩) 1 1,.int .i64 31,.int .i64 6,.int .i64 18,.int .i64 0,.slice (some ⟨o,0,none⟩) 1 1,.int .i64 3]) (by kernel_rfl) fun r hr=>?_;have A:=Q1 (x:=(true,.cells #[.int .i64 0,.int .i64 12,.int .i64 0,.slice (some ⟨r0,0,none⟩) 3 3,.int .i64 0,.int .i64 1,.int .i64 15,.int .i64 0,.slice (some ⟨r1,0,none⟩) 1 1,.int .i64 0,.int .i64 2,.int .i64 25,.int .i64 0,.slice (some ⟨r2,0,none⟩) 1 1,.int .i64 0,.int .i64 3,.int .i64 22,.int .i64 0,.slice (some ⟨r3,0,none⟩) 1 1,.int .i64 0,.int .i64 4,.int .i64 40,.int .i64 0,.slice (some ⟨r4,0,none⟩) 1 1,.int .i64 30,.int .i64 5,.int .i64 44,.int .i64 0,.slice (some ⟨r5,0,none⟩) 1 1,.int .i64 0,.int .i64 0,.int .i64 20,.int .i64 1,.slice (some ⟨l,0,none⟩) 2 2,.int .i64 0,.int .i64 1,.int .i64 27,.int .i64 1,.slice (some ⟨m,0,none⟩) 1 1,.int .i64 0,.int .i64 4,.int .i64 50,.int .i64 0,.slice (some ⟨n,0,none⟩) 1 1,.int .i64 31,.int .i64 6,.int .i64 18,.int .i64 0,.slice (some ⟨o,0,none⟩) 1 1,.int .i64 3] 120 (0,0))) hr;have rows:Go.TM.Rows (EventEnc y.get) [.int .i64 0,.int .i64 12,.int .i64 0,.slice (some ⟨r0,0,none⟩) 3 3,.int .i64 0,.int .i64 1,.int .i64 15,.int .i64 0,.slice (some ⟨r1,0,none⟩) 1 1,.int .i64 0,.int .i64 2,.int .i64 25,.int .i64 0,.slice (some ⟨r2,0,none⟩) 1 1,.int .i64 0,.int .i64 3,.int .i64 22,.int .i64 0,.slice (some ⟨r3,0,none⟩) 1 1,.int .i64 0,.int .i64 4,.int .i64 40,.int .i64 0,.slice (some ⟨r4,0,none⟩) 1 1,.int .i64 30,.int .i64 5,.int .i64 44,.int .i64 0,.slice (some ⟨r5,0,none⟩) 1 1,.int .i64 0,.int .i64 0,.int .i64 20,.int .i64 1,.slice (some ⟨l,0,none⟩) 2 2,.int .i64 0,.int .i64 1,.int .i64 27,.int .i64 1,.slice (some ⟨m,0,none⟩) 1 1,.int .i64 0,.int .i64 4,.int .i64 50,.int .i64 0,.slice (some ⟨n,0,none⟩) 1 1,.int .i64 31,.int .i64 6,.int .i64 18,.int .i64 0,.slice (some ⟨o,0,none⟩) 1 1,.int .i64 3] exT.events:=Go.TM.Rows.snoc (x:=(⟨6,18,0,[0],3⟩ : Ev)) (ws:=[.int .i64 6,.int .i64 18,.int .i64 0,.slice (some ⟨o,0,none⟩) 1 1,.int .i64 3]) (Go.TM.Rows.snoc (x:=(⟨4,50,0,[1],31⟩ : Ev)) (ws:=[.int .i64 4,.int .i64 50,.int .i64 0,.slice (some ⟨n,0,none⟩) 1 1,.int .i64 31]) (Go.TM.Rows.snoc (x:=(⟨1,27,1,[1],0⟩ : Ev)) (ws:=[.int .i64 1,.int .i64 27,.int .i64 1,.slice (some ⟨m,0,none⟩) 1 1,.int .i64 0]) (Go.TM.Rows.snoc (x:=(⟨0,20,1,[0,1],0⟩ : Ev)) (ws:=[.int .i64 0,.int .i64 20,.int .i64 1,.slice (some ⟨l,0,none⟩) 2 2,.int .i64 0]) (Go.TM.Rows.snoc (x:=(⟨5,44,0,[0],0⟩ : Ev)) (ws:=[.int .i64 5,.int .i64 44,.int .i64 0,.slice (some ⟨r5,0,none⟩) 1 1,.int .i64 0]) (Go.TM.Rows.snoc (x:=(⟨4,40,0,[0],30⟩ : Ev)) (ws:=[.int .i64 4,.int .i64 40,.int .i64 0,.slice (some ⟨r4,0,none⟩) 1 1,.int .i64 30]) (Go.TM.Rows.snoc (x:=(⟨3,22,0,[2],0⟩ : Ev)) (ws:=[.int .i64 3,.int .i64 22,.int .i64 0,.slice (some ⟨r3,0,none⟩) 1 1,.int .i64 0]) (Go.TM.Rows.snoc (x:=(⟨2,25,0,[1],0⟩ : Ev)) (ws:=[.int .i64 2,.int .i64 25,.int .i64 0,.slice (some ⟨r2,0,none⟩) 1 1,.int .i64 0]) (Go.TM.Rows.snoc (x:=(⟨1,15,0,[1],0⟩ : Ev)) (ws:=[.int .i64 1,.int .i64 15,.int .i64 0,.slice (some ⟨r1,0,none⟩) 1 1,.int .i64 0]) (Go.TM.Rows.snoc (x:=(⟨0,12,0,[0,1,2],0⟩ : Ev)) (ws:=[.int .i64 0,.int .i64 12,.int .i64 0,.slice (some ⟨r0,0,none⟩) 3 3,.int .i64 0]) (.nil) ⟨_,_,_,rfl,Nat.le_refl _,s⟩) ⟨_,_,_,rfl,Nat.le_refl _,s1⟩) ⟨_,_,_,rfl,Nat.le_refl _,s2⟩) ⟨_,_,_,rfl,Nat.le_refl _,t⟩) ⟨_,_,_,rfl,Nat.le_refl _,u⟩) ⟨_,_,_,rfl,Nat.le_refl _,w⟩) ⟨_,_,_,rfl,Nat.le_refl _,s6⟩) ⟨_,_,_,rfl,Nat.le_refl _,s7⟩) ⟨_,_,_,rfl,Nat.le_refl _,s8⟩) ⟨_,_,_,rfl,Nat.le_refl _,C⟩;refine gZ ?_;refine Qh ⟨LH.le_trans p A,⟨some ⟨r,0,none⟩,10,10⟩,rfl,Nat.le_refl _,?_⟩;refine rows.sl EventEnc.len (by omega) (EventEnc.e (Jj A.1)) (el:=120) ⟨rfl,.inr ⟨r,_,rfl,Qn _ _ _,rfl,Nat.le_refl _,fun j v hv=>by simpa using hv⟩⟩ (by decide)
end Go.Y.Tre
end
section
namespace Go.TM.Tp
open Go.TM.Tr
def hdT(x:TF):Bs:=rowS wTreaty [di x.items,di x.lands,di x.start,di x.depend,di x.refuse,di x.turn]
def rowE(e:Ev):Bs:=rowS (wordT e.kind.toNat) (fieldsE e)
def textTi(x:TF)(i:Nat):Bs:=text (hdT x::(x.events.take i).map rowE)
variable {x:TF}{i:Nat}
theorem W0(h:x.events.length<=i):textTi x i=textT x:=by
 unfold textTi textT rowsT;rw[List.take_of_length_le h];rfl
theorem textTi_snoc{e:Ev}(h:x.events[i]?=some e):textTi x (i+1)=textTi x i++lineS (wordT e.kind.toNat) (fieldsE e):=by
 unfold textTi;rw[J3 h,List.map_append,<- List.cons_append];show text (_++[rowE e])=_;rw[text_snoc,Yk];rfl
structure TSm(x:TF):Prop where
 head:Sm x.items/\Sm x.lands/\Sm x.start/\Sm x.depend/\Sm x.refuse/\Sm x.turn
 few:x.events.length<=10
 ev:∀ e∈x.events,(0<=e.kind/\e.kind<=6)/\Sm e.day/\Sm e.land/\Sm e.since/\(∀ n∈e.items,Sm n)/\e.items.length<=5
theorem asc_len:∀ {l:List Int} {b:Nat} {a:Int},(∀ v∈l,a<=v/\v<(b:Int))->l.Pairwise (·<·)->(l.length:Int)<=(b:Int)-a\/l=[]
 | [],_,_,_,_=>.inr rfl
 | x::l,b,a,h,c=>by
  left;obtain⟨h1,h2⟩:=List.pairwise_cons.1 c;have d:=h x (by simp);rcases asc_len (l:=l) (b:=b) (a:=x+1) (fun v hv=>⟨by have:=h1 v hv;omega,(h v (List.mem_cons_of_mem _ hv)).2⟩) h2 with h3|h3
  ·simp only[List.length_cons];omega
  ·subst h3;simp only[List.length_cons,List.length_nil];omega
theorem tsm(h:checkT x=0)(f:x.events.length<=10):TSm x:=by
 have i:=Zq h;refine⟨by unfold Sm;omega,f,fun e he=>?_⟩;have c:=Ys.1 (H4 h e he);have k:=c.kind;have d:=c.day;have s:=c.since;have l:=c.land;obtain⟨i1,i2⟩:=items_ok c.items;refine⟨k,by unfold Sm;omega,by unfold Sm;omega,by unfold Sm;omega,fun n g=>by have:=i1 n g;unfold Sm;omega,?_⟩;rcases asc_len (b:=5) (a:=0) (fun v hv=>by have:=i1 v hv;omega) i2 with h1|h1
 ·omega
 ·rw[h1];simp
theorem Gm{e:Ev}(h:Sm e.day/\Sm e.land/\Sm e.since/\(∀ n∈e.items,Sm n)/\e.items.length<=5):(∀ f∈fieldsE e,f.length<=60)/\(fieldsE e).length<=4/\fieldsE e≠[]:=by
 obtain⟨h1,h2,h3,b,h5⟩:=h;have d1:=Zv h1.fits;have d2:=Zv h2.fits;have d3:=Zv h3.fits;have d4:=li_len fun n c=>(b n c).fits;unfold fieldsE;refine⟨fun f a=>?_,?_,by simp⟩
 ·simp only[List.mem_append,List.mem_singleton]at a;rcases a with((rfl|a)|a)|rfl
  ·omega
  ·split at a
   ·rw[List.mem_singleton]at a;subst a;omega
   ·cases a
  ·split at a
   ·rw[List.mem_singleton]at a;subst a;omega
   ·cases a
  ·omega
 ·split<;>split<;>simp
theorem Um:∀ k,k<=6->(wordT k).length<=6:=by decide
theorem Kq(s:TSm x)(i:Nat):(textTi x i).length<=11*400:=by
 have h1:=text_len (B:=399) (bs:=hdT x::(x.events.take i).map rowE) fun b hb=>by
  rcases List.mem_cons.1 hb with rfl|hb
  ·obtain⟨a,c,d,f,g,h⟩:=s.head;have:=Zv a.fits;have:=Zv c.fits;have:=Zv d.fits;have:=Zv f.fits;have:=Zv g.fits;have:=Zv h.fits;unfold hdT rowS;simp[wTreaty];omega
  ·obtain⟨e,he,rfl⟩:=List.mem_map.1 hb;obtain⟨k1,l⟩:=s.ev e (List.mem_of_mem_take he);obtain⟨j,k,_⟩:=Gm l;have:=row_small (w:=wordT e.kind.toNat) (by have:=Um e.kind.toNat (by omega);omega) j k;unfold rowE;omega
 have h2:(hdT x::(x.events.take i).map rowE).length<=11:=by
  simp only[List.length_cons,List.length_map,List.length_take];have:=s.few;omega
 have:(hdT x::(x.events.take i).map rowE).length*400<=11*400:=Nat.mul_le_mul_right _ h2;exact Nat.le_trans h1 this
theorem printT_ok(h:checkT x=0)(s:TSm x):printT x=(textT x,0):=by
 have:=Kq s x.events.length;rw[W0 (Nat.le_refl _)]at this;unfold printT;rw[if_neg (by simp[h]),if_neg (by omega)]
theorem printT_bad(h:checkT x≠0):printT x=([],checkT x):=by unfold printT;rw[if_pos h]
theorem check_few(h:checkT x=0):x.events.length<=10:=by
 unfold checkT at h;split at h
 ·cases h
 ·split at h
  ·cases h
  ·omega
end Go.TM.Tp
namespace Go.Y.Txt
open Go.TM.Tp Go.TM.Tr
open Go.Lib (decDigits)
attribute [local irreducible] T.wp CV FWK
theorem t_oneN{X:XP}{Q:Leaf->LH->Prop}{h:LH}{K:Value->T}(x:Int)(d:∀ p h',h.le h'->Growing IntEnc 3 1 h.get h'.get p 1 1 [x]->(K (.slice p 1 1)).wp X Tryz.prog Q h'):(T.sem false (Instr.buildSlice 47 1 #[(0,.int .i64 x)]) K).wp X Tryz.prog Q h:=by
 refine Dc (cells:=#[.int .i64 x]) Tre.und50 Tre.inf3 (by decide) (by decide) (by kernel_rfl) fun r hr=>d _ _ (Q1 hr) ⟨⟨[.int .i64 x],⟨rfl,.inr ⟨r,_,rfl,Qn _ _ _,rfl,Nat.le_refl _,fun j v c=>by simpa using c⟩⟩,.snoc (vs:=[]) .nil rfl⟩,fun a b=>by cases b;exact hr⟩
theorem c3709{h:LH}{f:TC}{x:TF}(hk:Tre.Kinds h.get)(hw:KWords h.get)(pw:PowT 5 h.get)(hu:TreatyR h.get f x):Gr Tryz.prog 16 #[treatyV f x] h fun r _=>r=printV (printT x):=by
 refine w3709 Qr ?_;refine t_pu (Tre.c2021 hk hu) ?_;refine yI (fun e=>?_) (fun e=>?_)
 ·have hz:checkT x≠0:=by simpa using e
  rw[printT_bad hz];exact Qh ⟨LH.le_refl _,rfl⟩
 have C:checkT x=0:=by simpa using e
 have sm:=tsm C (check_few C);rw[printT_ok C sm];obtain⟨f1,f2,f3,f4,f5,f6⟩:=sm.head;refine Yh fun r h0 m0 k0 hr=>?_;have B0:BldR h h0 r []:=⟨⟨none,none,0,hr,.inl rfl,OwnRow.nil,NewIn.none,fun a ha=>by cases ha⟩,k0,m0⟩
 refine Tre.t_ints [x.items,x.lands,x.start,x.depend,x.refuse,x.turn] (by decide) rfl (by decide) (by kernel_rfl) fun r1 h1 n0 s1=>?_;have B1:=B0.grow n0;refine gZ ?_;refine t_gr (c3734 (pw.le B1.le.1) s1 (by simp) (fun v hv=>by simp only[List.mem_cons,List.not_mem_nil,or_false]at hv;rcases hv with rfl|rfl|rfl|rfl|rfl|rfl<;>assumption)) ?_;rintro _ h2 o0 ⟨q,m,k,rfl,s2,_⟩;have B2:=B1.grow o0;refine gZ ?_;have d1:=Zv f1.fits;have d2:=Zv f2.fits;have d3:=Zv f3.fits;have d4:=Zv f4.fits;have d5:=Zv f5.fits;have d6:=Zv f6.fits;refine J9 (H2 Qr (by rfl) (c3733 (w:=wTreaty) B2 s2 (by simp) (by decide) (by simp) (Nat.le_trans (G2 (B:=60) fun g hg=>by simp only[List.map_cons,List.map_nil,List.mem_cons,List.not_mem_nil,or_false]at hg;rcases hg with rfl|rfl|rfl|rfl|rfl|rfl<;>omega) (by simp)) (by simp))) ?_;rintro _ h3 ⟨rfl,B3⟩;refine gZ ?_;have e0:[]++lineS wTreaty ([x.items,x.lands,x.start,x.depend,x.refuse,x.turn].map di)=textTi x 0:=by simp[textTi,text,hdT,Yk]
 rw[e0]at B3;refine Jl (fun mm vs h'=>∃ i:Nat,vs=[.int .i64 i]/\i<=f.n/\mm=f.n-i/\BldR h h' r (textTi x i)) (fun vs h'=>(∃ i:Int,vs=[.int .i64 i])/\BldR h h' r (textT x)) ⟨0,rfl,Nat.zero_le _,rfl,B3⟩ ?_ ?_
 ·rintro Y mm vs o hY ⟨i,rfl,hi,rfl,d⟩;have hn:=hu.2.1;have a1:=sm.few;refine yJ (fun F=>?_) (fun F=>?_)
  ·obtain⟨ev,a,hx,ha,xe⟩:=(hu.2.le EventE.grow d.le.1).at (i:=i) (by omega);have a2:0<=(i:Int)/\(i:Int)<(f.n:Int):=by omega
   have N:=List.mem_of_getElem? hx;obtain⟨kb,G,H,I,z,W⟩:=sm.ev ev N;obtain⟨y0,y1,y2,⟨q',m',cq,y3,m1,x0⟩,y4⟩:=xe;obtain⟨kk,g0⟩ : ∃ kk:Nat,ev.kind=(kk:Int):=⟨ev.kind.toNat,by omega⟩
   have E:kk<7:=by omega
   have M:ev.kind.toNat=kk:=by omega
   rw[g0]at y0;have D:=hk.le d.le.1;have w0:o.get.cell? (((⟨1,0,none⟩ : Addr).add ((kk:Int).toNat*4)).add 0)=some (.string (str (wordT kk))):=by rw[Qa,Qa,Int.toNat_natCast];simpa using hw.le d.le.1 kk E
   have w1:o.get.cell? (((⟨1,0,none⟩ : Addr).add ((kk:Int).toNat*4)).add 1)=some (.bool (Tre.landK kk)):=by rw[Qa,Qa,Int.toNat_natCast];simpa using D.land kk E
   have w2:o.get.cell? (((⟨1,0,none⟩ : Addr).add ((kk:Int).toNat*4)).add 2)=some (.bool (Tre.sinceK kk)):=by rw[Qa,Qa,Int.toNat_natCast];simpa using D.since kk E
   have w3:=D.gives kk E;have u0:o.get.cell? (((⟨1,0,none⟩ : Addr).add ((kk:Int).toNat*4)).add 3)=some (.func (.func (if Tre.givesK kk then 294 else 295)) #[] #[]):=by rw[Qa,Qa,Int.toNat_natCast];simpa using w3
   have j1:0<=(kk:Int)/\(kk:Int)<((7:Nat):Int):=by omega
   refine gZ ?_;refine Qv w0 ?_;refine gZ ?_;refine D9 u0 ?_;refine yT ?_;refine t_oneN ev.day fun p1 h7 s g1=>?_;have X:Tre.landK kk=landB kk:=by
    match kk,E with
    | 0,_|1,_|2,_|3,_|4,_|5,_|6,_=>rfl
   have Z:Tre.sinceK kk=sinceB kk:=by
    match kk,E with
    | 0,_|1,_|2,_|3,_|4,_|5,_|6,_=>rfl
   rw[X,Z];refine gZ ?_;refine Ja (fun vs h'=>∃ (p:Option Addr) (n c:Nat),vs=[.slice p n c]/\o.le h'/\Growing IntEnc 3 1 o.get h'.get p n c ([ev.day]++(if landB kk then [ev.land] else []))) ?_ ?_
   ·refine Qt (fun A=>?_) (fun A=>?_)
    ·refine D8 ev.land (by simp) g1 s fun S c' h8 t Q=>?_;refine Qj ⟨S,2,c',rfl,t,?_⟩;rw[if_pos A];exact Q
    ·refine Qj ⟨p1,1,1,rfl,s,?_⟩;rw[if_neg (by simp[A])];exact g1
   rintro vs h8 ⟨p2,n2,c2,rfl,t,Q⟩;refine gZ ?_;refine Ja (fun vs h'=>∃ (p:Option Addr) (n c:Nat),vs=[.slice p n c]/\o.le h'/\Growing IntEnc 3 1 o.get h'.get p n c ([ev.day]++(if landB kk then [ev.land] else [])++(if sinceB kk then [ev.since] else []))) ?_ ?_
   ·refine Qt (fun A=>?_) (fun A=>?_)
    ·refine D8 ev.since (by split<;>simp) Q t fun S c' h9 b R=>?_;refine Qj ⟨S,n2+1,c',rfl,b,?_⟩;rw[if_pos A];exact R
    ·refine Qj ⟨p2,n2,c2,rfl,t,?_⟩;rw[show (if sinceB kk=true then [ev.since] else [])=[] from if_neg (by simp[A]),List.append_nil];exact Q
   rintro vs h9 ⟨p3,n3,c3,rfl,b,R⟩;have hL:∀ v∈([ev.day]++(if landB kk then [ev.land] else [])++(if sinceB kk then [ev.since] else [])),Sm v:=by
    intro v hv;simp only[List.mem_append,List.mem_singleton]at hv;rcases hv with(rfl|hv)|hv
    ·exact G
    ·split at hv
     ·rw[List.mem_singleton]at hv;subst hv;exact H
     ·cases hv
    ·split at hv
     ·rw[List.mem_singleton]at hv;subst hv;exact I
     ·cases hv
   have a0:([ev.day]++(if landB kk then [ev.land] else [])++(if sinceB kk then [ev.since] else [])).length<=3:=by split<;>split<;>simp
   have K:([ev.day]++(if landB kk then [ev.land] else [])++(if sinceB kk then [ev.since] else [])).map di++[li ev.items]=fieldsE ev:=by
    unfold fieldsE;rw[M];cases landB kk<;>cases sinceB kk<;>rfl
   generalize ([ev.day]++(if landB kk then [ev.land] else [])++(if sinceB kk then [ev.since] else []))=L at R hL a0 K;refine gZ ?_;refine t_gr (c3734 (pw.le (LH.le_trans d.le b).1) (growI R (by omega)).2 (by omega) hL) ?_;rintro _ n1 j ⟨q4,m4,k4,rfl,s4,g4⟩;refine gZ ?_;refine t_gr (c3734 (pw.le (LH.le_trans d.le (LH.le_trans b j)).1) (x0.le IntE.grow (LH.le_trans b j).1) (by omega) z) ?_;rintro _ o1 u ⟨q5,m5,k5,rfl,s5,_⟩;have b2:=li_len fun v hv=>(z v hv).fits;refine gZ ?_;refine t_gr (c3716 s5 44 (by rw[List.length_map];omega) (by rw[li_is];omega)) ?_;rintro _ q1 y rfl;refine Qs ?_;rw[li_is];refine gZ ?_;have j0:=g4.count BsEnc.len (by omega);rw[List.length_map]at j0;refine Zg [.string (str (li ev.items))] undSs infS (by decide) (by decide) (by kernel_rfl) ?_;intro r7 z0 l _ l0;refine gZ ?_;have P:=LH.le_trans j (LH.le_trans u (LH.le_trans y l));refine Db (h₀:=h9) (Enc:=BsEnc) (li ev.items) [.string (str (li ev.items))] rfl rfl undSs infS rfl (by omega) (by omega) (g4.le (LH.le_trans u (LH.le_trans y l)).1) P rfl rfl l0 (bs_one _) ?_;intro S c' u1 O l1 J;rw[K]at J;obtain⟨z1,z2,z3⟩:=Gm ⟨G,H,I,z,W⟩;have s0:=growS J (by omega);have U:=d.grow (LH.le_trans b O);have e2:=Kq sm i;have g2:=Um kk (by omega);refine gZ ?_;refine J9 (H2 Qr (by rfl) (c3733 (w:=wordT kk) U s0 z3 (by omega) (by omega) (join_small z1 z2) (by omega))) ?_;rintro _ x1 ⟨rfl,V⟩;refine gZ ?_;refine Qj (hY (f.n-(i+1)) _ _ (by omega) ⟨i+1,?_,by omega,rfl,?_⟩)
   ·rw[Qm (by omega) (by omega)];rfl
   ·rw[textTi_snoc hx,M];exact V
  ·rw[W0 (by omega)]at d;exact gH ⟨⟨_,rfl⟩,d⟩
 rintro vs o ⟨⟨i0,rfl⟩,d⟩;refine gZ ?_;have ht:=Kq sm x.events.length;rw[W0 (Nat.le_refl _)]at ht;obtain⟨p0,q0,cc,F,_⟩:=d.cells;refine t_pu (c3720 F) ?_;refine gZ ?_;refine t_if (fun F=>absurd F (by omega)) (fun _=>?_);refine Jp (c3721 d (by omega)) ?_;rintro _ h7 ⟨rfl,s⟩;refine Qs ?_;exact Qh ⟨s,rfl⟩
end Go.Y.Txt
end
section
namespace Go.Y.Tre
open Go.TM.Tr
attribute [local irreducible] T.wp CV FWK
def datesA(x:TF)(k d:Int):List Int:=if Qy x k d=0 then datesT x k d else []
def protA(x:TF)(k d:Int):List Bool:=if Qy x k d=0 then protT x k d else []
def turnsA(x:TF)(k d:Int):List Int:=if Qy x k d=0 then turnsT x k d else []
def SpansA(x:TF)(k i:Int)(m:List Sp):Prop:=(Q9 x k i≠0/\m=[])\/(Q9 x k i=0/\∃ l,IsDays x l/\m=spansT x k i l)
def needA(x:TF)(k i d:Int):List Int:=if Jr x k i d=0/\0<=dateOn x k i d then needT x k i d else []
def heldA(x:TF)(k i d:Int):Bool:=decide (Jr x k i d=0/\0<=dateOn x k i d)
variable {h:Cells}{x:TF}{k d i:Int}{r:Value}
theorem SpansA.one{x:TF}{k i:Int}{m a:List Sp}(h:SpansA x k i m)(h':SpansA x k i a):m=a:=by
 rcases h with⟨h1,rfl⟩|⟨h1,l,h2,rfl⟩<;>rcases h' with⟨h3,rfl⟩|⟨h3,c,b,rfl⟩
 ·rfl
 ·exact absurd h3 h1
 ·exact absurd h1 h3
 ·rw[h2.one b]
theorem ProtR.form(hr:ProtR h x k d r):∃ p n c,r=.tuple #[.slice p n c,.int .i64 (Qy x k d)]/\Sl BoolE 1 h p n (protA x k d)/\n<=c:=hr
theorem DatesR.form(hr:DatesR h x k d r):∃ p n c,r=.tuple #[.slice p n c,.int .i64 (Qy x k d)]/\Sl IntE 1 h p n (datesA x k d)/\n<=c:=by
 rcases hr with⟨h1,rfl⟩|⟨h1,p,n,c,rfl,s,a⟩
 ·exact⟨none,0,0,rfl,by rw[datesA,if_neg h1];exact Sl.nil,Nat.le_refl _⟩
 ·exact⟨p,n,c,by rw[h1],by rw[datesA,if_pos h1];exact s,a⟩
theorem TurnsR.form(hr:TurnsR h x k d r):∃ p n c,r=.tuple #[.slice p n c,.int .i64 (Qy x k d)]/\Sl IntE 1 h p n (turnsA x k d)/\n<=c:=by
 rcases hr with⟨h1,rfl⟩|⟨h1,p,n,c,rfl,s,a⟩
 ·exact⟨none,0,0,rfl,by rw[turnsA,if_neg h1];exact Sl.nil,Nat.le_refl _⟩
 ·exact⟨p,n,c,by rw[h1],by rw[turnsA,if_pos h1];exact s,a⟩
theorem SpansR.form(hr:SpansR h x k i r):∃ p n c m,r=.tuple #[.slice p n c,.int .i64 (Q9 x k i)]/\SpansA x k i m/\Sl SpE 2 h p n m/\n<=c:=by
 rcases hr with⟨h1,rfl⟩|⟨h1,p,n,c,l,rfl,a,s,b⟩
 ·exact⟨none,0,0,[],rfl,.inl ⟨h1,rfl⟩,Sl.nil,Nat.le_refl _⟩
 ·exact⟨p,n,c,_,by rw[h1],.inr ⟨h1,l,a,rfl⟩,s,b⟩
theorem NeedsR.form(hr:NeedsR h x k i d r):∃ p n c,r=.tuple #[.slice p n c,.bool (heldA x k i d),.int .i64 (Jr x k i d)]/\Sl IntE 1 h p n (needA x k i d)/\n<=c:=by
 rcases hr with⟨h1,rfl⟩|⟨h1,h2,rfl⟩|⟨h1,h2,p,n,c,rfl,s,e⟩
 ·exact⟨none,0,0,by rw[heldA,decide_eq_false (fun h=>h1 h.1)],by rw[needA,if_neg (fun h=>h1 h.1)];exact Sl.nil,Nat.le_refl _⟩
 ·exact⟨none,0,0,by rw[heldA,decide_eq_false (fun h=>h2 h.2),h1],by rw[needA,if_neg (fun h=>h2 h.2)];exact Sl.nil,Nat.le_refl _⟩
 ·exact⟨p,n,c,by rw[heldA,decide_eq_true ⟨h1,h2⟩,h1],by rw[needA,if_pos ⟨h1,h2⟩];exact s,e⟩
/-! ### b a examples -/
def exDays:List Int:=[0,12,15,18,20,22,25,27,40,44,50,10000]
theorem ex_days:IsDays exT exDays:=by
 refine⟨by decide +kernel,fun v=>?_⟩;simp only[exDays,exT,List.mem_cons,List.not_mem_nil,or_false,exists_eq_or_imp,false_and,exists_false,exists_eq_left];omega
theorem ex1:Qy exT 0 15=0/\protA exT 0 15=[true,false,true]:=by decide +kernel
theorem ex2:Qy exT 1 40=0/\protA exT 1 40=[false,true,false]:=by decide +kernel
theorem ex3:Qy exT 0 18=0/\datesA exT 0 18=[3,-1,12]:=by decide +kernel
theorem ex4:Qy exT 0 44=0/\datesA exT 0 44=[3,12,-1]:=by decide +kernel
theorem ex5:Q9 exT 0 0=0/\spansT exT 0 0 exDays=[⟨12,39⟩,⟨44,9999⟩]:=by decide +kernel
theorem ex6:Q9 exT 0 1=0/\spansT exT 0 1 exDays=[⟨12,14⟩,⟨25,9999⟩]:=by decide +kernel
theorem ex7:Qy exT 1 45=0/\turnsA exT 1 45=[0]:=by decide +kernel
theorem ex8:Qy exT 1 46=0/\turnsA exT 1 46=[]:=by decide +kernel
theorem ex9:Jr exT 0 0 44=0/\heldA exT 0 0 44=true/\needA exT 0 0 44=[0,5]:=by decide +kernel
theorem ex_spans(h0:Q9 exT 0 i=0){m:List Sp}(h:SpansA exT 0 i m):m=spansT exT 0 i exDays:=h.one (.inr ⟨h0,_,ex_days,rfl⟩)
theorem c2017{h:LH}(e0:h.chans=[])(l0:h.pend=[])(hk:Kinds h.get):FW XT Tryz.prog 15 #[] h fun r h'=>r=.bool true/\Rd h.get h'.get/\h'.chans=[]/\h'.pend=[]/\h'.todo=h.todo:=by
 refine w2017 Gh ?_;refine t_gr c2048 ?_;rintro _ h0 U ⟨f,rfl,hx⟩;have e:treatyV f exT=.agg #[.int .i64 3,.int .i64 2,.int .i64 10,.int .i64 20,.int .i64 6,.int .i64 5,.slice f.p f.n f.c]:=rfl;rw[e];refine gZ ?_;have E:=hk.le U.1;refine t_gr (c2018 E hx 0 15) ?_;intro r1 h1 w hr;obtain⟨p1,n1,k1,rfl,s1,_⟩:=hr.form;rw[ex1.1];rw[ex1.2]at s1;refine gZ ?_;have F:=E.le w.1;have M:=hx.le w.1;refine t_gr (c2018 F M 1 40) ?_;intro r2 h2 x hr;obtain⟨p2,n2,k2,rfl,s2,_⟩:=hr.form;rw[ex2.1];rw[ex2.2]at s2;refine gZ ?_;have G:=F.le x.1;have N:=M.le x.1;refine t_gr (c2026 G N 0 18) ?_;intro r3 h3 y hr;obtain⟨p3,n3,k3,rfl,X,_⟩:=hr.form;rw[ex3.1];rw[ex3.2]at X;refine gZ ?_;have H:=G.le y.1;have O:=N.le y.1;refine t_gr (c2026 H O 0 44) ?_;intro r4 h4 z hr;obtain⟨p4,n4,k4,rfl,Y,_⟩:=hr.form;rw[ex4.1];rw[ex4.2]at Y;refine gZ ?_;have I:=H.le z.1;have P:=O.le z.1;refine t_gr (c2023 I P 0 0) ?_;intro r5 h5 A hr;obtain⟨p5,n5,k5,m5,rfl,y0,Z,_⟩:=hr.form;obtain rfl:=ex_spans ex5.1 y0;rw[ex5.1];rw[ex5.2]at Z;refine gZ ?_;have J:=I.le A.1;have Q:=P.le A.1;refine t_gr (c2023 J Q 0 1) ?_;intro r6 h6 B hr;obtain⟨p6,n6,k6,m6,rfl,z0,s6,_⟩:=hr.form;obtain rfl:=ex_spans ex6.1 z0;rw[ex6.1];rw[ex6.2]at s6;refine gZ ?_;have K:=J.le B.1;have R:=Q.le B.1;refine t_gr (c2029 K R 1 45) ?_;intro r7 h7 C hr;obtain⟨p7,n7,k7,rfl,s7,_⟩:=hr.form;rw[ex7.1];rw[ex7.2]at s7;refine gZ ?_;have L:=K.le C.1;have S:=R.le C.1;refine t_gr (c2029 L S 1 46) ?_;intro r8 h8 D hr;obtain⟨p8,n8,k8,rfl,s8,_⟩:=hr.form;rw[ex8.1];rw[ex8.2]at s8;refine gZ ?_;have g0:=L.le D.1;have n0:=S.le D.1;have v:=D;have u:=LH.le_trans C v;have t:=LH.le_trans B u;have s:=LH.le_trans A t;have q:=LH.le_trans z s;have o:=LH.le_trans y q;have m:=LH.le_trans x o;have l:=LH.le_trans U (LH.le_trans w m);refine Jp (c2044 (by rw[l.2.1,e0]) (by rw[l.2.2.1,l0]) g0 n0 0 0 44) ?_;rintro r9 h9 ⟨k,a0,k0,m0,hr⟩;obtain⟨p9,n9,k9,rfl,s9,_⟩:=hr.form;rw[ex9.1,ex9.2.1];rw[ex9.2.2]at s9;refine gZ ?_;have s1:=(s1.le BoolE.grow m.1).rd BoolE.grow k;have s2:=(s2.le BoolE.grow o.1).rd BoolE.grow k;have X:=(X.le IntE.grow q.1).rd IntE.grow k;have Y:=(Y.le IntE.grow s.1).rd IntE.grow k;have Z:=(Z.le SpE.grow t.1).rd SpE.grow k;have s6:=(s6.le SpE.grow u.1).rd SpE.grow k;have s7:=(s7.le IntE.grow v.1).rd IntE.grow k;have s8:=s8.rd IntE.grow k;have j0:n8=0:=s8.1;subst j0;have W:=(Jj l.1).trans k;refine Ja (fun vs h'=>vs=[.bool false]/\h9=h') ?_ ?_
 ·refine Qt (fun e=>absurd e (by decide)) (fun _=>?_);refine Qt (fun e=>absurd e (by decide)) (fun _=>?_);refine Qt (fun e=>absurd e (by decide)) (fun _=>?_);refine Qt (fun e=>absurd e (by decide)) (fun _=>?_);refine Qt (fun e=>absurd e (by decide)) (fun _=>?_);refine Qt (fun e=>absurd e (by decide)) (fun _=>?_);refine Qt (fun e=>absurd e (by decide)) (fun _=>?_);refine Qt (fun e=>absurd e (by decide)) (fun _=>?_);refine Qt (fun e=>absurd e (by decide)) (fun _=>?_);exact Qj ⟨rfl,rfl⟩
 rintro vs _ ⟨rfl,rfl⟩;refine gZ ?_;refine Ja (fun vs h'=>vs=[.bool false]/\h9.le h') ?_ ?_
 ·refine t_bools [true,false,true] (by decide) rfl (by decide) (by kernel_rfl) fun q1 g1 V u1=>?_;refine gZ ?_;have j:=c2020 (h:=g1) (c:=k1) (d:=3) (s1.le BoolE.grow V.1) u1;rw[decide_eq_true rfl]at j;refine t_pu j ?_;refine gZ ?_;refine Qt (fun e=>absurd e (by decide)) (fun _=>?_);refine t_bools [false,true,false] (by decide) rfl (by decide) (by kernel_rfl) fun q2 g2 o0 u2=>?_;refine gZ ?_;have i:=LH.le_trans V o0;have j:=c2020 (h:=g2) (c:=k2) (d:=3) (s2.le BoolE.grow i.1) u2;rw[decide_eq_true rfl]at j;refine t_pu j ?_;refine gZ ?_;refine Qt (fun e=>absurd e (by decide)) (fun _=>?_);refine t_ints [3,-1,12] (by decide) rfl (by decide) (by kernel_rfl) fun q3 g3 p0 u3=>?_;refine gZ ?_;have i:=LH.le_trans i p0;have j:=c35 (h:=g3) (c:=k3) (d:=3) (X.le IntE.grow i.1) u3;rw[decide_eq_true rfl]at j;refine t_pu j ?_;refine gZ ?_;refine Qt (fun e=>absurd e (by decide)) (fun _=>?_);refine t_ints [3,12,-1] (by decide) rfl (by decide) (by kernel_rfl) fun q4 g4 q0 u4=>?_;refine gZ ?_;have i:=LH.le_trans i q0;have j:=c35 (h:=g4) (c:=k4) (d:=3) (Y.le IntE.grow i.1) u4;rw[decide_eq_true rfl]at j;refine t_pu j ?_;refine gZ ?_;refine Qt (fun e=>absurd e (by decide)) (fun _=>?_);refine Qt (fun e=>absurd e (by decide)) (fun _=>?_);refine t_ints [0,5] (by decide) rfl (by decide) (by kernel_rfl) fun q5 g5 s0 u5=>?_;refine gZ ?_;have i:=LH.le_trans i s0;have j:=c35 (h:=g5) (c:=k9) (d:=2) (s9.le IntE.grow i.1) u5;rw[decide_eq_true rfl]at j;refine t_pu j ?_;refine gZ ?_;refine Qt (fun e=>absurd e (by decide)) (fun _=>?_);exact Qj ⟨rfl,i⟩
 rintro vs g ⟨rfl,i⟩;refine gZ ?_;refine t_pu (c2049 _ _) ?_;refine gZ ?_;refine t_pu (c2049 _ _) ?_;refine gZ ?_;refine Zg [.int .i64 12,.int .i64 39,.int .i64 44,.int .i64 9999] und22 inf30 (by decide) (by decide) (by kernel_rfl) ?_;intro q6 g6 u0 _ u6;refine gZ ?_;have i:=LH.le_trans i u0;have j:=c2025 (h:=g6) (c:=k5) (d:=2) (Z.le SpE.grow i.1) (sp_two (a:=⟨12,39⟩) (b:=⟨44,9999⟩) u6);rw[decide_eq_true rfl]at j;refine t_pu j ?_;refine yT ?_;refine t_pu (c2049 _ _) ?_;refine gZ ?_;refine t_pu (c2049 _ _) ?_;refine gZ ?_;refine Zg [.int .i64 12,.int .i64 14,.int .i64 25,.int .i64 9999] und22 inf30 (by decide) (by decide) (by kernel_rfl) ?_;intro q7 g7 w0 _ u7;refine gZ ?_;have i:=LH.le_trans i w0;have j:=c2025 (h:=g7) (c:=k6) (d:=2) (s6.le SpE.grow i.1) (sp_two (a:=⟨12,14⟩) (b:=⟨25,9999⟩) u7);rw[decide_eq_true rfl]at j;refine t_pu j ?_;refine yT ?_;refine t_ints [0] (by decide) rfl (by decide) (by kernel_rfl) fun q8 g8 x0 u8=>?_;refine gZ ?_;have i:=LH.le_trans i x0;have j:=c35 (h:=g8) (c:=k7) (d:=1) (s7.le IntE.grow i.1) u8;rw[decide_eq_true rfl]at j;refine t_pu j ?_;refine yT ?_;exact Qh ⟨rfl,W.trans (Jj i.1),i.2.1.trans a0,i.2.2.1.trans k0,by rw[i.2.2.2,m0,l.2.2.2]⟩
end Go.Y.Tre
end
namespace Go.Y.Txt
section
open Go.TM.Tp Go.TM.Tr
attribute [local irreducible] T.wp CV FWK
theorem c3713{h:LH}{f g:TC}{x:TF}(b:TreatyR h.get f x)(d:TreatyR h.get g x):Pu Tryz.prog 20 #[treatyV f x,treatyV g x] h (.bool true):=by
 refine w3713 Qr ?_;have n5:f.n=g.n:=by have:=b.2.1;have:=d.2.1;omega
 refine Ja (fun vs h'=>vs=[.bool false]/\h=h') ?_ ?_
 ·refine Qt (fun e=>by simp at e) (fun _=>?_);refine Qt (fun e=>by simp at e) (fun _=>?_);refine Qt (fun e=>by simp at e) (fun _=>?_);refine Qt (fun e=>by simp at e) (fun _=>?_);refine Qt (fun e=>by simp at e) (fun _=>?_);refine Qt (fun e=>by simp at e) (fun _=>?_);refine Qt (fun e=>by rw[n5]at e;simp at e) (fun _=>?_);exact Qj ⟨rfl,rfl⟩
 rintro vs _ ⟨rfl,rfl⟩;refine gZ ?_;refine Jl (fun l vs h'=>h=h'/\∃ i:Nat,vs=[.bool false,.int .i64 i]/\i<=f.n/\l=f.n-i) (fun vs h'=>h=h'/\∃ i:Int,vs=[.bool false,.int .i64 i]) ⟨rfl,0,rfl,Nat.zero_le _,rfl⟩ ?_ ?_
 ·rintro Y l vs _ s ⟨rfl,i,rfl,F,rfl⟩;have G:=b.2.1;have v:=b.2.2.1;have hm:=d.2.1;refine yJ (fun e=>?_) (fun e=>?_)
  ·obtain⟨a,D,y,t,H,I,J,⟨q,m,r,K,o,B⟩,L⟩:=b.2.at (i:=i) (by omega);obtain⟨M,E,k,u,N,O,P,⟨A,z,c,Q,p,C⟩,R⟩:=d.2.at (i:=i) (by omega);rw[y]at k;cases k;have w:0<=(i:Int)/\(i:Int)<(f.n:Int):=by omega
   have j:0<=(i:Int)/\(i:Int)<(g.n:Int):=by omega
   refine Ja (fun vs h'=>vs=[.int .i64 a.kind,.int .i64 a.day,.int .i64 a.land,.slice q m r,.int .i64 a.since,.int .i64 a.kind,.int .i64 a.day,.int .i64 a.land,.slice A z c,.int .i64 a.since]/\h=h') ?_ ?_
   ·refine gZ ?_;refine Zr ?_ ?_<;>refine gZ ?_<;>exact Qj ⟨rfl,rfl⟩
   rintro vs _ ⟨rfl,rfl⟩;refine gZ ?_;refine Qt (fun b1=>by simp at b1) (fun _=>?_);refine Qt (fun b1=>by simp at b1) (fun _=>?_);refine Qt (fun b1=>by simp at b1) (fun _=>?_);refine Qt (fun b1=>by simp at b1) (fun _=>?_);refine t_pu (c35 B C) ?_;refine gZ ?_;refine Qt (fun b1=>by simp at b1) (fun _=>?_);refine Qj (s (f.n-(i+1)) _ _ (by omega) ⟨rfl,i+1,?_,by omega,rfl⟩);rw[Qm (by omega) (by omega)];rfl
  ·exact gH ⟨rfl,_,rfl⟩
 rintro vs _ ⟨rfl,i0,rfl⟩;refine gZ ?_;exact Qh ⟨rfl,rfl⟩
def FinT(r:Value)(h':LH):Prop:=r=.bool true/\h'.chans=[]/\h'.pend=[]/\True
theorem Ye{Q:Leaf->LH->Prop}{K:Value->T}{h h':LH}(b:h.chans=[])(d:h.pend=[])(f:Tre.Kinds h.get)(c:h.le h')(e:∀ a,a.chans=[]/\a.pend=[]/\True->(K (.bool true)).wp XT Tryz.prog Q a):(T.call false 15 #[] K).wp XT Tryz.prog Q h':=by
 refine Jp (Tre.c2017 (c.2.1.trans b) (c.2.2.1.trans d) (f.le c.1)) ?_;rintro _ a ⟨rfl,_,h1,h2,_⟩;exact e a ⟨h1,h2,trivial⟩
end
section
open Go.TM.Tp Go.TM.Tr
open Go.Lib (decDigits)
attribute [local irreducible] T.wp CV FWK
variable {h:LH}
theorem t_oneS{X:XP}{Q:Leaf->LH->Prop}{K:Value->T}(x:Bs)(d:∀ p h',h.le h'->Growing BsEnc 9 1 h.get h'.get p 1 1 [x]->(K (.slice p 1 1)).wp X Tryz.prog Q h'):(T.sem false (Instr.buildSlice 81 1 #[(0,.string (str x))]) K).wp X Tryz.prog Q h:=by
 refine Dc (cells:=#[.string (str x)]) undSs infS (by decide) (by decide) (by kernel_rfl) fun r hr=>d _ _ (Q1 hr) ⟨⟨[.string (str x)],⟨rfl,.inr ⟨r,_,rfl,Qn _ _ _,rfl,Nat.le_refl _,fun j v c=>by simpa using c⟩⟩,.snoc (vs:=[]) .nil rfl⟩,fun a b=>by cases b;exact hr⟩
theorem cell_keep{h h':Cells}{a:Addr}{v:Value}(c:∀ y,h a.block=some y->h' a.block=some y)(hc:h.cell? a=some v):h'.cell? a=some v:=by
 obtain⟨x,b,_⟩:=Gg hc;have e:=c x b;unfold Cells.cell? at hc ⊢;rw[b]at hc;rw[e];exact hc
theorem c3735:Gr Tryz.prog 68 #[] h fun r h'=>∃ a,r=.slice (some ⟨a,0,none⟩) 7 7/\h.get a=none/\BsS h' (some ⟨a,0,none⟩) 7 7 wordsT:=by
 refine w3735 Qr ?_;refine Zg (wordsT.map fun x=>Value.string (str x)) undSs infS (by decide) (by decide) (by kernel_rfl) ?_;intro r h' b c hr;refine gZ ?_;exact Qh ⟨b,_,rfl,c,sl_strs (l:=wordsT) (by decide) hr⟩
theorem c3723I{n:Int}(a:Fits n):Gr Tryz.prog 44 #[n] h fun r _=>r=.string (str (di n)):=c3723i a
theorem c3710{f:TC}{x:TF}(hu:TreatyR h.get f x):Gr Tryz.prog 17 #[treatyV f x] h fun r _=>r=printV (printT x):=by
 refine w3710 Qr ?_;refine t_pu (Tre.c2022 hu) ?_;refine yI (fun e=>?_) (fun e=>?_)
 ·have hz:checkT x≠0:=by simpa using e
  rw[printT_bad hz];exact Qh ⟨LH.le_refl _,rfl⟩
 have K:checkT x=0:=by simpa using e
 have sm:=tsm K (check_few K);rw[printT_ok K sm];obtain⟨f1,f2,f3,f4,f5,f6⟩:=sm.head;refine Tre.t_ints [x.items,x.lands,x.start,x.depend,x.refuse,x.turn] (by decide) rfl (by decide) (by kernel_rfl) fun r1 h1 a2 s1=>?_;have J:∀ v∈[x.items,x.lands,x.start,x.depend,x.refuse,x.turn],Sm v:=fun v hv=>by simp only[List.mem_cons,List.not_mem_nil,or_false]at hv;rcases hv with rfl|rfl|rfl|rfl|rfl|rfl<;>assumption
 have x0:[x.items,x.lands,x.start,x.depend,x.refuse,x.turn].length=6:=rfl;have a0:lineS wTreaty ([x.items,x.lands,x.start,x.depend,x.refuse,x.turn].map di)=textTi x 0:=by simp[textTi,text,hdT,Yk]
 generalize [x.items,x.lands,x.start,x.depend,x.refuse,x.turn]=L at s1 J x0 a0;refine gZ ?_;refine Jl (fun mm vs h'=>h1.le h'/\∃ (q:Option Addr) (m k i:Nat),vs=[.slice q m k,.int .i64 i]/\i<=6/\mm=6-i/\Growing BsEnc 9 1 h1.get h'.get q m k ((L.take i).map di)) (fun vs h'=>h1.le h'/\∃ (q:Option Addr) (m k:Nat) (i:Int),vs=[.slice q m k,.int .i64 i]/\Growing BsEnc 9 1 h1.get h'.get q m k (L.map di))
  ⟨LH.le_refl _,none,0,0,0,rfl,Nat.zero_le _,rfl,Growing.nil⟩ ?_ ?_
 ·rintro Y mm vs h2 hY ⟨o,q,m,k,i,rfl,hi,rfl,g⟩;refine yJ (fun P=>?_) (fun P=>?_)
  ·have O:=List.getElem?_eq_getElem (show i<L.length by omega);have m0:=List.getElem_mem (show i<L.length by omega);generalize L[i]=y at O m0;obtain⟨a,t,e2⟩:=(s1.le IntE.grow o.1).2.2 i y O;unfold IntE at e2;rw[U5]at e2;have g0:0<=(i:Int)/\(i:Int)<((6:Nat):Int):=by omega
   refine gT g0 (gS2 t (gL0 (by rw[Int.toNat_natCast];exact e2) ?_));refine t_gr (c3723I (J y m0).fits) ?_;rintro _ h3 p0 rfl;refine Qs ?_;refine W9 (di y) (by rw[List.length_map,List.length_take];omega) (g.le p0.1) (LH.le_trans o p0) fun C c' h' x1 _ g'=>?_;refine Qj (hY (6-(i+1)) _ _ (by omega) ⟨x1,C,m+1,c',i+1,?_,by omega,rfl,?_⟩)
   ·rw[Qm (by omega) (by omega)];rfl
   ·rw[J3 O,List.map_append];exact g'
  ·rw[List.take_of_length_le (by omega)]at g;exact gH ⟨o,q,m,k,_,rfl,g⟩
 rintro vs h2 ⟨o,q,m,k,i0,rfl,g⟩;have j1:∀ f∈L.map di,f.length<=2^20:=fun f hf=>by
  obtain⟨v,hv,rfl⟩:=List.mem_map.1 hf;have:=Zv (J v hv).fits;omega
 refine gZ ?_;refine t_pu (c3722 (w:=wTreaty) (growS g (by rw[List.length_map];omega)) (by decide) (by rw[List.length_map];omega) j1) ?_;refine Qs ?_;rw[a0];refine gZ ?_;refine Jl (fun mm vs h'=>h.le h'/\∃ i:Nat,vs=[.string (str (textTi x i)),.int .i64 i]/\i<=f.n/\mm=f.n-i) (fun vs h'=>h.le h'/\∃ i:Int,vs=[.string (str (textT x)),.int .i64 i]) ⟨LH.le_trans a2 o,0,rfl,Nat.zero_le _,rfl⟩ ?_ ?_
 ·rintro Y mm vs h6 hY ⟨s,i,rfl,hi,rfl⟩;have hn:=hu.2.1;have k2:=sm.few;refine Jt ?_;refine yJ (fun P=>?_) (fun P=>?_)
  ·obtain⟨ev,a,O,t,xe⟩:=(hu.2.le EventE.grow s.1).at (i:=i) (by omega);have g0:0<=(i:Int)/\(i:Int)<(f.n:Int):=by omega
   have k0:=List.mem_of_getElem? O;obtain⟨kb,Q,R,E,D,s0⟩:=sm.ev ev k0;obtain⟨y0,y1,y2,⟨q',m',cq,y3,m2,g2⟩,y4⟩:=xe;obtain⟨kk,l1⟩ : ∃ kk:Nat,ev.kind=(kk:Int):=⟨ev.kind.toNat,by omega⟩
   have k7:kk<7:=by omega
   have j0:ev.kind.toNat=kk:=by omega
   rw[l1]at y0;have l2:0<=(kk:Int)/\(kk:Int)<((7:Nat):Int):=by omega
   have S:landB kk=((kk:Int) != 4):=by
    match kk,k7 with
    | 0,_|1,_|2,_|3,_|4,_|5,_|6,_=>rfl
   have G:sinceB kk=((kk:Int)==4||(kk:Int)==6):=by
    match kk,k7 with
    | 0,_|1,_|2,_|3,_|4,_|5,_|6,_=>rfl
   have u1:wordsT[kk]?=some (wordT kk):=by
    match kk,k7 with
    | 0,_|1,_|2,_|3,_|4,_|5,_|6,_=>rfl
   refine gZ ?_;refine t_gr (c3723I Q.fits) ?_;rintro _ Z q0 rfl;refine Qs ?_;refine t_oneS (di ev.day) fun p1 u2 A g1=>?_;refine gZ ?_;refine Ja (fun vs h'=>∃ (p:Option Addr) (n c:Nat),vs=[.slice p n c]/\Z.le h'/\Growing BsEnc 9 1 Z.get h'.get p n c ([di ev.day]++(if landB kk then [di ev.land] else []))) ?_ ?_
   ·refine Qt (fun u=>?_) (fun u=>?_)
    ·refine gZ ?_;refine t_gr (c3723I R.fits) ?_;rintro _ h8 j rfl;refine Qs ?_;refine W9 (di ev.land) (by simp) (g1.le j.1) (LH.le_trans A j) fun C c' h9 b _ N=>?_;refine Qj ⟨C,2,c',rfl,b,?_⟩;rw[if_pos (S.trans u)];exact N
    ·refine Qj ⟨p1,1,1,rfl,A,?_⟩;rw[if_neg (by rw[S,u];decide)];exact g1
   rintro vs h8 ⟨p2,n2,c2,rfl,j,g8⟩;refine gZ ?_;refine Ja (fun vs h'=>∃ (p:Option Addr) (n c:Nat),vs=[.slice p n c]/\Z.le h'/\Growing BsEnc 9 1 Z.get h'.get p n c ([di ev.day]++(if landB kk then [di ev.land] else [])++(if sinceB kk then [di ev.since] else []))) ?_ ?_
   ·refine Qt (fun u=>?_) (fun u=>?_)
    ·refine gZ ?_;refine t_gr (c3723I E.fits) ?_;rintro _ h9 b rfl;refine Qs ?_;refine W9 (di ev.since) (by split<;>simp) (g8.le b.1) (LH.le_trans j b) fun C c' I d _ H=>?_;refine Qj ⟨C,n2+1,c',rfl,d,?_⟩;rw[show (if sinceB kk=true then [di ev.since] else [])=[di ev.since] from if_pos (by rw[G,u];rfl)];exact H
    ·refine Qt (fun F=>?_) (fun F=>?_)
     ·refine gZ ?_;refine t_gr (c3723I E.fits) ?_;rintro _ h9 b rfl;refine Qs ?_;refine W9 (di ev.since) (by split<;>simp) (g8.le b.1) (LH.le_trans j b) fun C c' I d _ H=>?_;refine Qj ⟨C,n2+1,c',rfl,d,?_⟩;rw[show (if sinceB kk=true then [di ev.since] else [])=[di ev.since] from if_pos (by rw[G,u,F];rfl)];exact H
     ·refine Qj ⟨p2,n2,c2,rfl,j,?_⟩;rw[show (if sinceB kk=true then [di ev.since] else [])=[] from if_neg (by rw[G,u,F];decide),List.append_nil];exact g8
   rintro vs h9 ⟨p3,n3,c3,rfl,b,N⟩;have e0:([di ev.day]++(if landB kk then [di ev.land] else [])++(if sinceB kk then [di ev.since] else []))++[li ev.items]=fieldsE ev:=by
    unfold fieldsE;rw[j0]
   have z0:([di ev.day]++(if landB kk then [di ev.land] else [])++(if sinceB kk then [di ev.since] else [])).length<=3:=by cases landB kk<;>cases sinceB kk<;>simp
   generalize ([di ev.day]++(if landB kk then [di ev.land] else [])++(if sinceB kk then [di ev.since] else []))=L at N z0 e0;refine gZ ?_;refine t_gr c3735 ?_;rintro _ I d ⟨aw,rfl,l0,sw⟩;obtain⟨o2,a1,ew⟩:=sw.at u1;cases a1;have U:I.get.cell? ((⟨aw,0,none⟩ : Addr).add ((kk:Int).toNat*1))=some (.string (str (wordT kk))):=by rw[Int.toNat_natCast];exact ew
   have n1:∀ a,p3=some a->a.block≠aw:=fun a t e=>by
    obtain⟨vs,⟨_,⟨hp,_⟩|⟨r0,cs,hp,o1,_⟩⟩,_⟩:=N.row
    ·rw[hp]at t;cases t
    ·rw[hp]at t;cases t;rw[<- e,o1]at l0;cases l0
   refine gZ ?_;refine Qv U ?_;refine t_gr (c3725 (g2.le IntE.grow (LH.le_trans q0 (LH.le_trans b d)).1) (by omega) (fun v hv=>(D v hv).fits)) ?_;rintro _ q2 z rfl;refine Qs ?_;have V:=Qo z.1 U;refine Qv V ?_;refine gZ ?_;refine Zg [.string (str (li ev.items))] undSs infS (by decide) (by decide) (by kernel_rfl) ?_;intro r7 j2 l _ q1;refine gZ ?_;have W:=Qo l.1 V;refine Qv W ?_;refine gZ ?_;have B:=LH.le_trans d (LH.le_trans z l);have hm:=N.count BsEnc.len (by omega);have x2:=li_len fun v hv=>(D v hv).fits;refine Db (h₀:=Z) (Enc:=BsEnc) (li ev.items) [.string (str (li ev.items))] rfl rfl undSs infS rfl (by omega) (by omega) (N.le B.1) (LH.le_trans b B) rfl rfl q1 (bs_one _) ?_;intro C c' w0 o0 n0 X;rw[e0]at X;obtain⟨z1,z2,z3⟩:=Gm ⟨Q,R,E,D,s0⟩;have b2:=growS X (by omega);have u0:w0.get.cell? ((⟨aw,0,none⟩ : Addr).add ((kk:Int).toNat*1))=some (.string (str (wordT kk))):=cell_keep (fun y hy=>n0 _ y (fun a t=>by rw[Qa];exact n1 a t) hy) W;have a3:=Kq sm i;have b3:=Um kk (by omega);refine gZ ?_;refine Qv u0 ?_;refine gZ ?_;refine t_pu (c3722 (w:=wordT kk) b2 (by omega) (by omega) (fun f hf=>by have:=z1 f hf;omega)) ?_;refine Qs ?_;refine gZ ?_;have M:=textTi_snoc O;rw[j0]at M;have m1:=Kq sm (i+1);rw[M,List.length_append]at m1;refine K9 undS (by omega) (Qs ?_);refine gZ ?_;refine Qj (hY (f.n-(i+1)) _ _ (by omega) ⟨LH.le_trans s (LH.le_trans q0 o0),i+1,?_,by omega,rfl⟩);rw[Qm (by omega) (by omega),<- M];rfl
  ·rw[W0 (by omega)];exact gH ⟨s,_,rfl⟩
 rintro vs h6 ⟨s,i1,rfl⟩;refine Jt ?_;refine gZ ?_;have ht:=Kq sm x.events.length;rw[W0 (Nat.le_refl _)]at ht;refine Q8 undS ?_;refine gZ ?_;refine t_if (fun P=>absurd P (by omega)) (fun _=>?_);exact Qh ⟨s,rfl⟩
end
end Go.Y.Txt
