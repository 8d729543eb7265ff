/- Contracts and laws for the proof, joined by a program. No condition. -/
import Derived.Test.YtpkjbclajflhbaaGreatDoorM5
set_option linter.all false
noncomputable section
open Go Go.Conc Go.TM Go.Proofs
set_option maxRecDepth 100000
open Go.IntKind (wrap)
section
namespace Go.TM.Tp
open Go.Lib (decDigits)
open Go.TM.Tr
def wTreaty:Bs:=[116,114,101,97,116,121]
def wordsT:List Bs:=[[97,115,107],[114,101,102,117,115,101],[108,105,102,116],[108,105,109,105,116],[102,97,108,108],[116,117,114,110],[111,108,100]]
def landB(k:Nat):Bool:=k != 4
def sinceB(k:Nat):Bool:=k==4||k==6
def wordT(k:Nat):Bs:=(wordsT[k]?).getD []
def findB(w:Bs):List Bs->Option Nat
 | []=>none
 | a::l=>if a=w then some 0 else (findB w l).map (·+1)
def numsOf(k:Nat)(n:List Nat)(m:List Nat):Option Ev :=
 match landB k,sinceB k,n with
 | true,true,[d,l,s]=>some ⟨k,d,l,ints m,s⟩
 | true,false,[d,l]=>some ⟨k,d,l,ints m,0⟩
 | false,true,[d,s]=>some ⟨k,d,0,ints m,s⟩
 | _,_,_=>none
def eventL(k:Nat)(f:List Bs):Option Ev:=match f.getLast? with
 | some z=>(numsL f.dropLast).bind fun n=>(listL z).bind fun m=>numsOf k n m
 | none=>none
inductive LT where
 | head (a b c d e f:Nat)
 | event (e:Ev)
def lineT(first:Bool)(l:Bs):Option LT:=(fieldsL l).bind fun x =>
 if decide (x.1=wTreaty)≠first then none
 else if first then (match numsL x.2 with|some [a,b,c,d,e,f]=>some (.head a b c d e f)|_=>none)
 else (findB x.1 wordsT).bind fun k=>(eventL k x.2).map .event
def noTreaty:TF:=⟨0,0,0,0,0,0,[]⟩
def LT.put(x:TF):LT->TF
 | .head a b c d e f=>⟨a,b,c,d,e,f,[]⟩
 | .event e=>{ x with events:=x.events++[e] }
def goT:Nat->TF->List Bs->TF×Option Nat
 | _,x,[]=>(x,none)
 | n,x,b::bs=>match lineT (n==0) b with
  | none=>(x,some (n+1))
  | some y=>goT (n+1) (y.put x) bs
def parseT(t:Bs):TF×Nat×Int :=
 if 60000<t.length then (noTreaty,0,2)
 else match goT 0 noTreaty (linesL t) with
  | (_,some n)=>(noTreaty,n,3)
  | (x,none)=>if linesL t=[] then (noTreaty,0,3) else if checkT x≠0 then (noTreaty,0,checkT x) else (x,0,0)
def fieldsE(e:Ev):List Bs:=[di e.day]++(if landB e.kind.toNat then [di e.land] else [])++(if sinceB e.kind.toNat then [di e.since] else [])++[li e.items]
def rowsT(x:TF):List Bs:=rowS wTreaty [di x.items,di x.lands,di x.start,di x.depend,di x.refuse,di x.turn]::x.events.map fun e=>rowS (wordT e.kind.toNat) (fieldsE e)
def textT(x:TF):Bs:=text (rowsT x)
def printT(x:TF):Bs×Int:=if checkT x≠0 then ([],checkT x) else if 60000<(textT x).length then ([],2) else (textT x,0)
end Go.TM.Tp
end
namespace Go.TM
section
def entryOf(v:Value):PanicEntry:={ v,recovered:=false }
def passes(P:Program)(fr:Frame):Prop:=fr.mode=.run/\fr.defers=[]/\fr.catches P=false
def XC(c:Frame)(cs₀:List Frame)(V:Value->Prop)(h₀:LH):XP where
 cond P main R:=XT.cond P main R/\∀ v,V v->∀ h,h₀.le h->R (G (c.raise [entryOf v]) cs₀) h
 stk P _ cs:=∃ above:List Frame,(∀ fr∈above,passes P fr)/\cs=above++c::cs₀
 pass:=passes
variable {P:Program}{fr:Frame}
theorem XC_ok(c:Frame)(a:List Frame)(V:Value->Prop)(h₀:LH):XOK (XC c a V h₀) where
 frame P main R k e hc:=⟨Gh.frame P main R k e hc.1,fun v hv h d _=>hc.2 v hv (h.add k) (LH.le_trans d ⟨fun _ _ b=>Qi b,rfl,rfl,rfl⟩)⟩
 stk P kd fr cs d hp:=by
  obtain⟨above,f,rfl⟩:=d;refine⟨fr::above,fun x b=>?_,rfl⟩;rcases List.mem_cons.1 b with rfl|b
  ·exact hp
  ·exact f x b
 free P fr h1 h2 h3:=⟨h1,h2,h3⟩
structure PX(X:XP)(V:Value->Prop)(h₀:LH):Prop where
 ok:XOK X
 over:∀ P main R,X.cond P main R->XT.cond P main R
 pan:∀ P main R,Closed X P main R->∀ v,V v->∀ kd fr cs h,X.stk P kd cs->passes P fr->h₀.le h->R (G (fr.raise [entryOf v]) cs) h
theorem mv_panic{main:Bool}{R:Goroutine->LH->Prop}(a:LClosed P main R){c:Frame}{cs:List Frame}{h:LH}{ch:List PanicEntry}(hm:fr.mode=.panicking ch)(b:fr.defers=[])(hc:fr.catches P=false)(d:R (G (c.raise ch) cs) h):R (G fr (c::cs)) h:=by
 refine Jb a (g':=G (c.raise ch) cs) (fun w=>?_) d;simp[G,stepG,unwind,hm,b,hc]
theorem raise_passes(hp:passes P fr)(ch:List PanicEntry):(fr.raise ch).mode=.panicking ch/\(fr.raise ch).defers=[]/\(fr.raise ch).catches P=false:=by
 obtain⟨h1,h2,h3⟩:=hp;unfold Frame.raise;rw[h1];exact⟨rfl,h2,h3⟩
theorem panic_up{P:Program}{main:Bool}{R:Goroutine->LH->Prop}(d:LClosed P main R){c:Frame}{b:List Frame}{ch:List PanicEntry}{h:LH}(f:R (G (c.raise ch) b) h):∀ (above:List Frame) (fr:Frame),(∀ x∈above,passes P x)->passes P fr->R (G (fr.raise ch) (above++c::b)) h
 | [],fr,_,hp=>by
  obtain⟨h1,h2,h3⟩:=raise_passes hp ch;exact mv_panic d h1 h2 h3 f
 | a::above,fr,e,hp=>by
  obtain⟨h1,h2,h3⟩:=raise_passes hp ch;exact mv_panic d h1 h2 h3 (panic_up d f above a (fun x g=>e x (List.mem_cons_of_mem _ g)) (e a (List.mem_cons_self ..)))
theorem XC_px(c:Frame)(a:List Frame)(V:Value->Prop)(h₀:LH):PX (XC c a V h₀) V h₀ where
 ok:=XC_ok c a V h₀
 over P main R h:=h.1
 pan P main R b v hv kd fr cs h f hp e:=by
  obtain⟨above,d,rfl⟩:=f;exact panic_up b.1 (b.2.2 v hv h e) above fr d hp
end
section
section
variable {C:Ctx} {main:Bool} {R:Goroutine->LH->Prop} {cs:List Frame} {fn:FI} {Q:Leaf->LH->Prop}
def afterT(P:Program)(Q:Leaf->LH->Prop)(kres:Cells)(kT:LExit->Env->T):LExit->Env->T:=fun x e'=>.mem (fun h'=>Disj h'.get kres->(kT x e').wp XT P Q (h'.add kres)) (.leaf (.ret undef))
def anyQ:Leaf->LH->Prop:=fun _ _=>True
variable {σ:Nat->Nat}{PB:Nat->Prop}{e:Env}{hp:Cells}
theorem Kw{l b:Nat}{o:Obj}(h:b≠l):oneC l o b=none:=if_neg h
theorem five{A B L K M:Cells}(d1:Disj A B)(d2:Disj (A.add B) L)(d3:Disj ((A.add B).add L) (K.add M))(d4:Disj K M) :
  Disj (A.add K) ((B.add L).add M)/\((A.add B).add L).add (K.add M)=(A.add K).add ((B.add L).add M):=by
 have key:∀ b,((A.add K) b=none\/((B.add L).add M) b=none)/\(((A.add B).add L).add (K.add M)) b=((A.add K).add ((B.add L).add M)) b:=by
  intro b;have i:=d1 b;have a:=d2 b;have c:=d3 b;have j:=d4 b;unfold Cells.add at a c ⊢;generalize A b=d at *;generalize B b=e at *;generalize L b=g at *;generalize K b=f at *;generalize M b=h at *;cases d<;>cases e<;>cases g<;>cases f<;>cases h<;>simp_all
 exact⟨fun b=>(key b).1,funext fun b=>(key b).2⟩
theorem Sim.marked{t:Array Value}{d:Cells}{r:Nat}(s:Sim σ [] PB e t hp)(hr:hp r=none)(hle:∀ b x,hp b=some x->d b=some x):Sim σ [] (fun b=>PB b\/b=r) e t d:=by
 have f:=s.le hle;refine⟨f.slot,f.cell,f.only,f.inj,?_,fun _ _ _ _ h=>by cases h⟩;rintro t a j g i (h1|h1)
 ·exact s.prot t a j g i h1
 ·obtain⟨v,rfl⟩:=s.only t a j g;obtain⟨c,el,h2,_⟩:=s.cell t v j g;rw[h1,hr]at h2;cases h2
theorem rf_soundC(hR:Closed XT C.P main R){V:Value->Prop}{ds:List Deferred}{k:List Item}{id:Nat}{f:Operand}{ps:Array Tmp}{asq bd:Code}{T0:Array Value}{m:Cells}{h p:LH}{kT:LExit->Env->T}
 (dr:Disj h.get m)(s:Sim σ [] PB e T0 hp)(dj:Disj (h.get.add m) hp)(j1:∀ b,PB b->∃ x,hp b=some x)(hd:∀ d∈wrOf ps asq bd,d<T0.size/\d<4096)
 (hT:∀ X,PX X V p->(rfT C id f ps asq bd e (afterT C.P Q m kT)).wp X C.P anyQ h)
 (l1:∀ v₀,V v₀->∀ (r:Nat) (todo:List Item) (h':LH),Disj h'.get (m.add (oneC r (.deferred (some []))))->m r=none->p.le h'->R (G ((mkF fn (markOf r::ds) none T0 todo).raise [entryOf v₀]) cs) (h'.add (m.add (oneC r (.deferred (some []))))))
 (hk:BehindS XT C.P R fn cs k (wrOf ps asq bd) PB ds σ T0 hp kT Q):R (G (mkF fn ds none T0 (.code (.block id (.rangeFunc f ps asq bd))::k)) cs) ((h.add m).add hp):=by
 have a0:=hT (XC default [] V p) (XC_px default [] V p);unfold rfT at a0;split at a0
 ·rename_i n hn;split at a0
  ·rename_i n1;simp only[Bool.and_eq_true]at n1;obtain⟨y0,q0⟩:=n1;obtain⟨fv,y2,_⟩:=Qq a0;clear a0;refine Gy hR.1 (mv_enterLoop (fv:=fv) hR.1 ?_ ?_)
   ·intro fr y1;have:=s.eval (fn:=fn) (ds:=ds) (rd:=none) (k:=[]) y2 (by simp);simp only[conc]at this;rw[<- this];cases f<;>simp[Frame.eval,mkF,y1]
   ·intro r l hr hl o3;have n3:∀ x,((h.add m).add hp).get x=none->h.get x=none/\m x=none/\hp x=none:=by
     intro x p;unfold LH.add Cells.add at p;simp only at p;cases h1:h.get x with
     | some y=>rw[h1]at p;cases p
     | none =>
      rw[h1]at p;simp only at p;cases h2:m x with
      | some y=>rw[h2]at p;cases p
      | none=>rw[h2]at p;exact⟨rfl,rfl,p⟩
    obtain⟨s0,u0,k3⟩:=n3 r hr;obtain⟨z2,a3,j3⟩:=n3 l hl;let M:Cells:=oneC r (.deferred (some []));let Km:Cells:=m.add M;let c:Frame:=mkF fn (markOf r::ds) none T0 (.inRangeFunc l::.inBlock id::k);let X:XP:=XC c cs V p;have px:PX X V p:=XC_px c cs V p;have hX:XOK X:=px.ok;have y3:Disj m M:=J5 u0;let N:Goroutine->LH->Prop:=fun g h=>Disj h.get Km->R g (h.add Km);have K:Closed X C.P main N:=⟨hR.1.frame Km,Gh.frame _ _ _ Km hR.1 hR.2,fun v hv h' hs d=>l1 v hv r _ h' d u0 hs⟩
    have O:=hT X px;clear hT;unfold rfT at O;rw[hn]at O;simp only at O;rw[show (allPriv n.slots&&freeOf (appL n.ro []) n.slots)=true by rw[y0,q0];rfl]at O;simp only at O;obtain⟨o4,o1,q2⟩:=Qq O;have m4:o4=fv:=by rw[y2]at o1;cases o1;rfl
    subst m4;obtain⟨init,a2,q4⟩:=Hq q2;obtain⟨S,nx,fin,x3,h₀,hm,k₀,heq,x1,hle,hH,hY⟩:=q4;clear O q2;let q:=stays (wrOf ps asq bd) (appL n.ro []) e;let Y:Nat->Prop:=prot' PB σ n.ro e;have j0:∀ b,Y b->∃ x,hp b=some x:=s.guarded_live n.ro j1;have m3:∀ e3 t' I U W,Sim I (appL n.ro []) Y e3 t' U->Fr (wrOf ps asq bd) Y σ T0 hp I t' U->collect e3 n.slots=some W->Inn σ (appL n.ro []) PB Y n.slots q (wrOf ps asq bd) T0 hp W U I:=by
     intro e3 t' I U W s' f' hc;obtain⟨sA,sB⟩:=s.rebind s' f' hc q0;have same:∀ i a,i<4096->(bindEnv n.slots W q).get i=some a->T0[i]?=t'[i]?:=by
      intro i a hi hg;rw[bindEnv_slots_priv y0 hi]at hg;obtain⟨_,_,_,_,hW⟩:=Ww hg;exact(f'.slots i (hW hi)).symm
     exact⟨sA.tmps same,sB.tmps same,⟨rfl,fun _ _=>rfl,f'.names,f'.prot⟩⟩
    have u3:Inn σ (appL n.ro []) PB Y n.slots q (wrOf ps asq bd) T0 hp init hp σ:=m3 e T0 σ hp init (s.guarded n.ro) Fr.refl a2;let L:=fun st pd=>loopObj st pd fn.fn T0 ps asq bd r;let body:=fun xs vs=>Zl n.ps xs fun xs=>bindS n.slots vs q fun e'=>bindPs ps.toList xs e' fun e'=>tree C false (appL n.ro []) asq e' fun x j4=>match x with
     | .fall=>tree C false (appL n.ro []) bd j4 fun x e3=>leafT (some id) e3 n.slots x
     | _=>.fail
    let m1:=afterT C.P Q m kT;let kf:=fun vs=>bindS n.slots vs q (m1 .fall);let kr:=fun vs=>bindS n.slots vs q (m1 .ret);let ko:=outT (fun j vs=>bindS n.slots vs q (m1 (.exit j))) n.outs;let Z:=ZG X C.P anyQ nx fin h₀ body kf kf kr ko;have hZ:Z x3 init hm:=hY;let J:S->LH->Prop:=fun i h'=>∃ vs hb u w,Core hb u l (L .ready none) h'/\Inn σ (appL n.ro []) PB Y n.slots q (wrOf ps asq bd) T0 hp vs u w/\Z i vs hb;let E:LH->Prop:=fun h'=>∃ (x:LExit) (vs:List Value) (hb:LH) (u:Cells) (w:Nat->Nat),x≠.fall/\Core hb u l (L .done (endJump x)) h'/\Inn σ (appL n.ro []) PB Y n.slots q (wrOf ps asq bd) T0 hp vs u w /\
     LeafIs (some id) x vs (fun l h'=>l.go h' (fun _ _=>False) (fun vs h'=>(kf vs).wp X C.P anyQ h') (fun vs h'=>(kr vs).wp X C.P anyQ h') (fun j vs h'=>(ko j vs).wp X C.P anyQ h')) hb
    have a4:Disj h.get hp:=dj.of_add_left;have q5:(h.get.add hp) l=none:=by rw[Qk z2];exact j3
    have o2:∀ i h' k',J i h'->Disj h'.get k'->J i (h'.add k'):=by
     rintro i h' k' ⟨vs,hb,u,w,c,F,z⟩ d;exact⟨vs,hb,u.add k',w,c.up d,F.le j0 k',z⟩
    have n2:∀ h' k',E h'->Disj h'.get k'->E (h'.add k'):=by
     rintro h' k' ⟨x,vs,hb,u,w,p,c,F,z⟩ d;exact⟨x,vs,hb,u.add k',w,p,c.up d,F.le j0 k',z⟩
    have H:∀ {hb:LH} {u:Cells} {o:Obj} {h':LH},LH.le h₀ hb->Core hb u l o h'->LH.le h₀ h':=by
     rintro hb u o h' b3 ⟨rfl,_,_⟩;exact⟨fun b x p=>Qi (Qi (b3.1 b x p)),b3.2⟩
    have u1:∀ i h' xs i',LH.le h₀ h'->nx i xs i'->J i h'->CV X C.P (.func (.yield l) #[] #[]) xs.toArray h' fun b h''=>LH.le h₀ h''/\((b=.bool true/\J i' h'')\/(b=.bool false/\E h'')):=by
     rintro i h' xs i' w0 hi ⟨vs,hb,u,w,⟨rfl,d1,d2⟩,F,z⟩ v3 k2 q1 fr₂ cs₂ j2 b2;obtain⟨o5,_,hw⟩:=z.out;have hw:=hw xs i' hi;have l5:=Jd (D5 hw);obtain⟨hlen,m5⟩:=bindPs_wp l5;have y4:((hb.get.add u).add (oneC l (L .ready none))) l=some (true,L .ready none):=Jm (Jx d2);show Qe C.P (Instr.yield l (#[]++xs.toArray)) _ _ _;unfold Instr.yield;refine K6 y4 ?_;have j5:¬ ((#[]++xs.toArray).size≠ps.size):=by simp[hlen]
     simp only[j5,if_false];show k2 (G (Frame.round l fn.fn _ asq bd .normal) (fr₂::cs₂)) _;have O:(ps.zip (#[]++xs.toArray)).foldl (fun tmps (x:Nat×Value)=>tmps.setIfInBounds x.1 x.2) T0=(ps.toList.zip xs).foldl (fun t (x:Nat×Value)=>t.setIfInBounds x.1 x.2) T0:=by
      rw[<- Array.foldl_toList];simp
     have:=round_sound (pd:=none) (h₀:=h₀) (A:=fun b h''=>LH.le h₀ h''/\((b=.bool true/\J i' h'')\/(b=.bool false/\E h''))) hX q1 (fr₂:=fr₂) (cs₂:=cs₂) j2 j0 hd F d1 d2 hlen m5 m3 (fun v h'' hA=>by
      have h1:=b2 v h'' (fun _=>none) (fun _=>.inr rfl) hA;have e0:h''.add (fun _=>none)=h'':=by
       unfold LH.add;have:h''.get.add (fun _=>none)=h''.get:=by funext b;unfold Cells.add;cases h''.get b<;>rfl
       rw[this]
      rw[e0]at h1;exact h1) (by
      intro x W m0 U I h'' D l0 B;cases x with
      | fall =>
       obtain⟨g0,hz⟩:=D;exact⟨H g0 B,.inl ⟨rfl,W,m0,U,I,B,l0,hz⟩⟩
      | ret =>
       obtain⟨g0,hz⟩:=D;exact⟨H g0 B,.inr ⟨rfl,.ret,W,m0,U,I,by simp,B,l0,hz⟩⟩
      | exit j =>
       unfold LeafIs at D;simp only at D;split at D
       ·rename_i ej;obtain⟨g0,hz⟩:=D;refine⟨H g0 B,.inr ⟨rfl,.exit j,W,m0,U,I,by simp,B,l0,?_⟩⟩;unfold LeafIs;simp only[if_pos ej];exact hz
       ·rename_i ej;obtain⟨g0,hz⟩:=D;refine⟨H g0 B,.inr ⟨rfl,.exit j,W,m0,U,I,by simp,B,l0,?_⟩⟩;unfold LeafIs;simp only[if_neg ej];exact hz)
     first|exact O▸this|(rw[<- O]at this;exact this)|exact this
    -- behind s5 loop
    have after:∀ (x:LExit) (vs:List Value) (hb:LH) (u:Cells) (w:Nat->Nat) (o:Obj),Disj hb.get u->Disj (hb.get.add u) (oneC l o)->Inn σ (appL n.ro []) PB Y n.slots q (wrOf ps asq bd) T0 hp vs u w->(m1 x (bindEnv n.slots vs q)).wp X C.P anyQ hb ->
      XR N fn (markOf r::ds) none T0 cs { hb with get:=(hb.get.add u).add (oneC l o) } k x:=by
     intro x vs hb u w o d1 d2 F hw;have g1:∀ dK:Disj ((hb.get.add u).add (oneC l o)) Km,XR R fn (markOf r::ds) none T0 cs { hb with get:=((hb.get.add u).add (oneC l o)).add Km } k x:=by
      intro dK;obtain⟨d5,e5⟩:=five d1 d2 dK y3;have q3:((hb.get.add u).add (oneC l o)) r=none:=by
       rcases dK r with h1|h1
       ·exact h1
       ·have:Km r=some (true,.deferred (some [])):=by show (m.add M) r=_;rw[Qk u0];exact Z0 _ _
        rw[this]at h1;cases h1
      have l3:u r=none:=by
       cases p:u r with
       | none=>rfl
       | some y =>
        have ha:hb.get r=none:=by
         rcases d1 r with h1|h1
         ·exact h1
         ·rw[p]at h1;cases h1
        rw[Qi (by rw[Qk ha];exact p)]at q3;cases q3
      have z3:Disj hb.get m:=by
       intro b;rcases dK b with h1|h1
       ·left;cases p:hb.get b with
        | none=>rfl
        | some y=>rw[Qi (Qi p)]at h1;cases h1
       ·right;cases p:m b with
        | none=>rfl
        | some y=>rw[show Km b=some y from Qi p]at h1;cases h1
      have k5:(kT x (bindEnv n.slots vs q)).wp XT C.P Q (hb.add m):=hw.1 z3;have w0:∀ b x,u b=some x->((u.add (oneC l o)).add M) b=some x:=fun b x p=>Qi (Qi p);have a5:∀ b,PB b->u b=hp b:=fun b hb1=>F.fr.prot b (.inl hb1);have a1:∀ b,PB b->((u.add (oneC l o)).add M) b=hp b:=fun b hb1=>by
       obtain⟨y,hy⟩:=j1 b hb1;rw[w0 b y (by rw[a5 b hb1];exact hy),hy]
      have g3:((u.add (oneC l o)).add M) r=some (true,.deferred (some [])):=by
       rw[Qk (by rw[Qk l3];exact Kw o3)];exact Z0 _ _
      have:=hk x (bindEnv n.slots vs q) T0 w ((u.add (oneC l o)).add M) (hb.add m) (fun b=>PB b\/b=r) [r] (F.simA.marked l3 w0) d5
       ⟨rfl,fun _ _=>rfl,F.fr.names,fun b hb1=>a1 b hb1⟩
       (fun b hb1=>.inl hb1)
       (fun b hb1=>by
        rcases hb1 with hb1|rfl
        ·rw[a1 b hb1];exact j1 b hb1
        ·exact⟨_,g3⟩)
       (fun r' z0=>by
        simp at z0;subst z0;exact⟨.inr rfl,g3⟩) (by simp) (fun r' z0 hP=>by
        simp at z0;subst z0;obtain⟨y,hy⟩:=j1 _ hP;rw[k3]at hy;cases hy) k5
      have e0:(hb.add m).add ((u.add (oneC l o)).add M)={ hb with get:=((hb.get.add u).add (oneC l o)).add Km }:=congrArg (fun g=>({ hb with get:=g }:LH)) e5.symm;rw[e0]at this;exact this
     cases x with
     | fall=>exact fun dK=>g1 dK
     | ret=>exact fun k' dK=>g1 dK k'
     | exit j=>exact fun k' u4 dK=>g1 dK k' u4
    have x2:∀ v h' k',Disj h'.get k'->(LH.le h₀ h'/\((∃ s,fin s/\J s h')\/E h'))->N (G ((mkF fn (markOf r::ds) none T0 (.inRangeFunc l::.inBlock id::k)).finish v) cs) (h'.add k'):=by
     intro v h' k' d z4;refine K.1.up _ _ k' ?_ d;show N (G (mkF fn (markOf r::ds) none T0 (.endRangeFunc l::.inBlock id::k)) cs) h';obtain⟨_,hJ|hE⟩:=z4
     ·obtain⟨s1,b5,vs,hb,u,w,⟨rfl,d1,d2⟩,F,z⟩:=hJ;have x0:=Jx d2;refine Hd (P:=C.P) K.1 (by rfl) (Jm x0) ?_;show N (G (mkF fn (markOf r::ds) none T0 (.inBlock id::k)) cs) { hb with get:=((hb.get.add u).add (oneC l (L .ready none))).upd l (true,loopObj .exhausted none fn.fn T0 ps asq bd r) };rw[Zk x0];exact Hc K.1 (after .fall vs hb u w _ d1 (Zn d2) F (Jd (z.out.2.1 b5)))
     ·obtain⟨x,vs,hb,u,w,p,⟨rfl,d1,d2⟩,F,z⟩:=hE;have x0:=Jx d2;refine Hd (P:=C.P) K.1 (by rfl) (Jm x0) ?_;show N (G (mkF fn (markOf r::ds) none T0 (((endJump x).map Item.code).toList++.inBlock id::k)) cs) { hb with get:=((hb.get.add u).add (oneC l (L .done (endJump x)))).upd l (true,loopObj .exhausted (endJump x) fn.fn T0 ps asq bd r) };rw[Zk x0];cases x with
      | fall=>exact absurd rfl p
      | ret=>exact after .ret vs hb u w _ d1 (Zn d2) F (Jd z) (.inBlock id::k)
      | exit j =>
       unfold LeafIs at z;simp only at z;split at z
       ·rename_i ej;cases ej;have:=after .fall vs hb u w (loopObj .exhausted (some (.exit id)) fn.fn T0 ps asq bd r) d1 (Zn d2) F (Jd z);exact Df K.1 (by simp[exitTo]) this
       ·rename_i ej;have hw:=Jd (Dd z);refine after (.exit j) vs hb u w _ d1 (Zn d2) F hw (.inBlock id::k) ?_;have:(id==j)=false:=by
         cases m0:(id==j) with
         | false=>rfl
         | true=>exact absurd (by rw[eq_of_beq m0]) ej
        simp[exitTo,this]
    have o0:Disj (hm.get.add k₀) hp:=by have:=a4;rw[heq]at this;exact this
    have k0:(hm.get.add k₀) l=none:=by have:=z2;rw[heq]at this;exact this
    have l2:Disj hm.get hp:=o0.of_add_left;have b4:Disj k₀ hp:=Qx x1 o0;have p1:hm.get l=none:=by
     cases p:hm.get l with
     | none=>rfl
     | some y=>rw[Qi p]at k0;cases k0
    have x4:k₀ l=none:=by rw[Qk p1]at k0;exact k0
    have g2:(hm.get.add hp) l=none:=by
     rw[Qk p1];exact j3
    have h4:Disj k₀ (oneC l (L .ready none)):=J5 x4;have u2:Disj ((hm.get.add hp).add (oneC l (L .ready none))) k₀:=Disj.add (Disj.add x1 b4.symm) h4.symm;have s4:=hH (.func (.yield l) #[] #[]) J E o2 n2 u1 { hm with get:=(hm.get.add hp).add (oneC l (L .ready none)) } (H hle ⟨rfl,l2,J5 g2⟩)
     ⟨init,hm,hp,σ,⟨rfl,l2,J5 g2⟩,u3,hZ⟩ u2 main N K c cs (show X.stk C.P .normal (c::cs) from ⟨[],List.forall_mem_nil _,rfl⟩) x2
    have m2:Disj (((hm.get.add hp).add (oneC l (L .ready none))).add k₀) Km:=by
     intro b;have e1:=dr b;have e2:=dj b;by_cases n0:b=r
     ·subst n0;left;have e4:hm.get b=none/\k₀ b=none:=by
       rw[heq]at s0;show hm.get b=none/\k₀ b=none;cases p:hm.get b with
       | some y=>rw[show (hm.add k₀).get b=some y from Qi p]at s0;cases s0
       | none=>exact⟨rfl,by rw[show (hm.add k₀).get b=k₀ b from Qk p]at s0;exact s0⟩
      rw[Qk]
      ·exact e4.2
      ·rw[Qk]
       ·exact Kw o3
       ·rw[Qk e4.1];exact k3
     ·have hM:M b=none:=Kw n0;cases p:m b with
      | none=>right;show (m.add M) b=none;rw[Qk p];exact hM
      | some y =>
       left;have h1:h.get b=none:=by
        rcases e1 with e1|e1
        ·exact e1
        ·rw[p]at e1;cases e1
       have h2:hp b=none:=by
        rcases e2 with e2|e2
        ·rw[Qk h1,p]at e2;cases e2
        ·exact e2
       have p0:b≠l:=by rintro rfl;rw[a3]at p;cases p
       have e4:hm.get b=none/\k₀ b=none:=by
        rw[heq]at h1;cases hy:hm.get b with
        | some z=>rw[show (hm.add k₀).get b=some z from Qi hy]at h1;cases h1
        | none=>exact⟨rfl,by rw[show (hm.add k₀).get b=k₀ b from Qk hy]at h1;exact h1⟩
       rw[Qk]
       ·exact e4.2
       ·rw[Qk]
        ·exact Kw p0
        ·rw[Qk e4.1];exact h2
    have y1:=Ki _ s4 m2;have z1:((((h.add m).add hp).get.upd r (true,.deferred (some []))).upd l (true,loopObj .ready none fn.fn T0 ps asq bd r))=(((hm.get.add hp).add (oneC l (L .ready none))).add k₀).add Km:=by
     funext b;have e1:=dr b;have e2:=dj b;have e3:=o0 b;have e4:=x1 b;subst heq;show ((((hm.get.add k₀).add m).add hp).upd r _).upd l _ b=_;unfold Cells.upd;by_cases p0:b=l
     ·subst p0;rw[if_pos rfl,Qi];rw[Qi];rw[Qk g2];exact Z0 _ _
     ·rw[if_neg p0];by_cases n0:b=r
      ·subst n0;rw[if_pos rfl];have:=m2 b;rcases this with h1|h1
       ·rw[Qk h1];show _=(m.add M) b;rw[Qk u0];exact(Z0 _ _).symm
       ·have:Km b=some (true,.deferred (some [])):=by show (m.add M) b=_;rw[Qk u0];exact Z0 _ _
        rw[this]at h1;cases h1
      ·rw[if_neg n0];have hM:M b=none:=Kw n0;have hL:oneC l (L .ready none) b=none:=Kw p0;show _=((((hm.get.add hp).add (oneC l (L .ready none))).add k₀).add (m.add M)) b;have k4:(hm.get.add k₀) b=none\/m b=none:=e1;have l4:((hm.get.add k₀).add m) b=none\/hp b=none:=e2;unfold Cells.add at k4 l4 e3 ⊢;rw[hM,hL];generalize hm.get b=xa at *;generalize k₀ b=xb at *;generalize m b=xl at *;generalize hp b=xk at *;cases xa<;>cases xb<;>cases xl<;>cases xk<;>simp_all
    rw[z1];refine Q7 _ y1 ?_ ?_
    ·rintro nx s3 ⟨h',d',rfl,hN⟩;subst heq;cases nx<;>first|exact hN.elim|exact hN d'
    ·rintro e' s3 ⟨_,_,_,hf⟩;exact hf.elim
  ·exact a0.elim
 ·exact a0.elim
end
end
section
section
variable {P:Program} {main:Bool} {R:Goroutine->LH->Prop} {cs:List Frame}
inductive RecTo(c:Frame):Value->Frame->Frame->Prop
 | none:c.mode=.returning->RecTo c .nilIface c c
 | some (v:Value):c.mode=.panicking [entryOf v]->RecTo c v { c with mode:=.panicking [{ v:=v,recovered:=true }] } { c with mode:=.returning }
variable {tmps cap:Array Value}{k todo:List Item}{h:LH}{ops:Array Oper}{i:Nat}{rest:List Nat}{o:Oper}{c c' c'':Frame}{v:Value}{ds:List Deferred}{g:FuncId}{m:FrameMode}
theorem mv_recover(l:LClosed P main R){fn:FI}(f:fn.kd=.deferred){ats:Array TypeId}
 (n:ops[i]?=some o)(hw:Region.wanted o (yielded ops tmps)=true)(g:o.op=.call { callee:=.builtin .recover,args:=#[],argTypes:=ats })
 (j:RecTo c v c' c'')(m:R (G ((mkF fn [] none tmps (.inRegion ops (i::rest)::k)).finish v) (c'::cs)) h):R (G (mkF fn [] none tmps (.inRegion ops (i::rest)::k)) (c::cs)) h:=by
 refine Jb l (fun w=>?_) m;rw[Gu n hw (by simp[notDefer,g])];have he:execOp (mkF fn [] none tmps (.inRegion ops (i::rest)::k)).eval o=pure .recover:=by
  unfold execOp;rw[g];rfl
 rw[he];have d:((mkF fn [] none tmps (.inRegion ops (i::rest)::k)).kind==CallKind.early)=false:=by simp[mkF,f]
 have e:(mkF fn [] none tmps (.inRegion ops (i::rest)::k)).kind=.deferred:=f;cases j with
 | none hm =>
  have hr:tryRecover (mkF fn [] none tmps (.inRegion ops (i::rest)::k)) (c::cs)=none:=by
   unfold tryRecover;rw[e];simp only;rw[hm]
  have b:(pure .recover:Sem Next).runT P w #[]=(.ok .recover w,#[]):=rfl;have a:(mkF fn [] none tmps (.inRegion ops (i::rest)::k)).roundOf=none:=rfl;simp only[stepG.apply,if_true,b,a,hr,d];simp[GStep.after,G,seen_none]
 | some v hm =>
  have hr:tryRecover (mkF fn [] none tmps (.inRegion ops (i::rest)::k)) (c::cs)=some (v,{ c with mode:=.panicking [{ v:=v,recovered:=true }] }::cs):=by
   unfold tryRecover;rw[e];simp only;rw[hm];rfl
  have b:(pure .recover:Sem Next).runT P w #[]=(.ok .recover w,#[]):=rfl;have a:(mkF fn [] none tmps (.inRegion ops (i::rest)::k)).roundOf=none:=rfl;simp only[stepG.apply,if_true,b,a,hr,d];simp[GStep.after,G,seen_none]
theorem mv_defer(f:LClosed P main R){fn:FI}{x:Operand}{ats:Array TypeId}
 (e:ops[i]?=some o)(hw:Region.wanted o (yielded ops tmps)=true)(c:o.op=.defer { callee:=.value x,args:=#[],argTypes:=ats })(a:o.dst=none)
 (m:(mkF fn ds none tmps (.inRegion ops (i::rest)::k)).eval x=.func (.func g) #[] cap)
 (j:R (G (mkF fn ({ target:=.fn (.func g) cap,args:=#[] }::ds) none tmps (.inRegion ops rest::k)) cs) h):R (G (mkF fn ds none tmps (.inRegion ops (i::rest)::k)) cs) h:=by
 refine Jb f (fun w=>?_) j;have he:execOp (mkF fn ds none tmps (.inRegion ops (i::rest)::k)).eval o=pure (.defer { target:=.fn (.func g) cap,args:=#[] }):=by
  unfold execOp;simp[c,resolve,Deferred.ofValue,m]
 have b:((mkF fn ds none tmps (.inRegion ops (i::rest)::k)).kind==CallKind.early)=false:=by simpa[mkF] using fn.ok
 have l:stepG P main (G (mkF fn ds none tmps (.inRegion ops (i::rest)::k)) cs) w=stepG.apply P true (mkF fn ds none tmps (.inRegion ops (i::rest)::k)) cs none (execOp (mkF fn ds none tmps (.inRegion ops (i::rest)::k)).eval o) w:=by
  simp[G,mkF,stepG,stepG.exec,stepG.oper,Frame.oper?,e,hw]
 rw[l,he];have d:(pure (.defer { target:=.fn (.func g) cap,args:=#[] }):Sem Next).runT P w #[]=(.ok (.defer { target:=.fn (.func g) cap,args:=#[] }) w,#[]):=rfl;simp only[stepG.apply,if_true,d,b];simp[mkF,GStep.after,G,Frame.finish,e,a,seen_none]
theorem mv_unwind(hR : LClosed P main R){fn : FI}{fd : Func}(hm : m ≠ .run)(hf : P.funcs[g]? = some fd)(hb : fd.body.isSome = true)(hname : (fd.name == "runtime.NumGoroutine") = false)
 (hn:R (G (Frame.enter P g cap .deferred) ({ mkF fn ds none tmps todo with mode:=m }::cs)) h):R (G { mkF fn ({ target:=.fn (.func g) cap,args:=#[] }::ds) none tmps todo with mode:=m } cs) h:=by
 refine Jb hR (fun w=>?_) hn
 have h1 : ¬ fd.name = "runtime.NumGoroutine" := by simpa using hname
 obtain⟨c,h2⟩:=Option.isSome_iff_exists.1 hb;cases m with
 | run=>exact absurd rfl hm
 | returning=>simp[G,mkF,stepG,unwind,callDeferred,invoke,callFunc,hf,h1,h2,GStep.after,seen_none]
 | panicking ch=>simp[G,mkF,stepG,unwind,callDeferred,invoke,callFunc,hf,h1,h2,GStep.after,seen_none]
theorem mv_takeDeferredM(g:LClosed P main R){fn:FI}{rd:Option Nat}{r:Nat}(hm:m≠.run)(d:h.get r=some (true,.deferred (some [])))
 (i:R (G { mkF fn ds rd tmps todo with mode:=m } cs) { h with get:=h.get.upd r (true,.deferred none) }):R (G { mkF fn (markOf r::ds) rd tmps todo with mode:=m } cs) h:=by
 refine g.step _ cs h R ?_ (fun _ _ h=>h);intro w hw;have hS:Qe P (Instr.takeDeferred r) (fun v h'=>v=[]/\h'=h.get.upd r (true,.deferred none)) (fun _ _=>False) h.get:=by
  unfold Instr.takeDeferred;show Qe P ((getObj r).bind _) _ _ _;refine Qz _ _ ?_;exact⟨true,_,d,trivial,⟨_,d,trivial⟩,rfl,rfl⟩
 obtain⟨w',h',b,k,c,j⟩:=Zo P _ _ _ _ w #[] hw hS;rcases j with⟨v,a,rfl,rfl⟩|⟨e,_,f⟩
 ·rw[Array.empty_append]at a;refine⟨_,w',seen P fn.fn b,_,?_,k,fun e he=>c e (Z7 he),i⟩;cases m with
  | run=>exact absurd rfl hm
  | returning=>simp only[G,mkF,stepG,unwind,markOf,a,GStep.after,List.nil_append,Array.append_empty]
  | panicking ch=>simp only[G,mkF,stepG,unwind,markOf,a,GStep.after,List.nil_append,Array.append_empty]
 ·exact f.elim
theorem ret_stepR(k:LClosed P main R){fr:Frame}{v₀:Value}(g:RecTo c v₀ c' c'')(r:Ret P .deferred fr v h.get)(m:R (G c'' cs) h):R (G fr (c'::cs)) h:=by
 refine k.step fr (c'::cs) h R ?_ (fun _ _ h=>h);intro w l;obtain⟨r1,r2,r3,fn,r4,r5⟩:=r;obtain⟨w',h',f,t,i,n⟩:=Zo P _ _ _ h.get w #[] l r5;rcases n with⟨o,b,rfl,rfl⟩|⟨e,b,j⟩
 ·rw[Array.empty_append]at b;have a:((results fn fr.tmps).runT P w #[]).1=.ok o w':=by rw[b]
  simp only[Sem.runT_fst]at a;refine⟨G c'' cs,w',seen P fr.fn f,h.get,?_,t,fun e he=>i e (Z7 he),m⟩;have d:Sem.events P (results fn fr.tmps) w #[]=f:=by show ((results fn fr.tmps).runT P w #[]).2=f;rw[b]
  cases g with
  | none hm=>simp[G,stepG,unwind,r1,r2,r4,a,d,GStep.after,doReturn,r3,hm]
  | some v hm=>simp[G,stepG,unwind,r1,r2,r4,a,d,GStep.after,doReturn,r3]
 ·exact j.elim
end
end
section
theorem Ko(h:LH):h.add (fun _=>none)=h:=by
 unfold LH.add;congr 1;funext r;unfold Cells.add;cases h.get r<;>rfl
def minusC(a b:Cells):Cells:=fun r=>match a r with|some _=>none|none=>b r
def valsOf(e:Env):List ResultVar->Env
 | []=>[]
 | r::l=>match slotA e (match r with | .cell a _=>a | .tmp a=>a) with
  | some (.val v)=>((match r with | .cell a _=>a | .tmp a=>a),.val v)::valsOf e l
  | _=>valsOf e l
theorem Zt{e:Env}:∀ {l:List ResultVar} {i:Nat} {x:AV},(valsOf e l).get i=some x->∃ v,x=.val v/\i<4096/\e.get i=some (.val v)
 | [],i,x,h=>by cases h
 | r::l,i,x,h=>by
  unfold valsOf at h;split at h
  ·rename_i v hv;unfold Env.get at h;split at h
   ·rename_i hb;have a:=Nat.eq_of_beq_eq_true hb;cases h;subst a;exact⟨v,rfl,J2 hv⟩
   ·exact Zt h
  ·exact Zt h
theorem valsOf_sim{σ:Nat->Nat}{ro:List Nat}{PB:Nat->Prop}{e:Env}{t:Array Value}{hp:Cells}(s:Sim σ ro PB e t hp)(l:List ResultVar):Sim σ [] (fun _=>False) (valsOf e l) t (fun _=>none) where
 slot i a d b hb:=by
  obtain⟨v,rfl,_,h⟩:=Zt b;exact s.slot i _ d h hb
 cell s v c b:=by obtain⟨_,_,h,_⟩:=Zt b;omega
 only s a c b:=by obtain⟨_,_,h,_⟩:=Zt b;omega
 inj s g a f c _ b:=by obtain⟨_,_,h,_⟩:=Zt b;omega
 prot s a c b:=by obtain⟨_,_,h,_⟩:=Zt b;omega
 cover s a c b:=by obtain⟨_,_,h,_⟩:=Zt b;omega
def retL:List Value->T:=fun l=>match l with
 | [v]=>.leaf (.ret v)
 | l=>.leaf (.ret (.tuple l.toArray))
section
variable {C:Ctx} {main:Bool} {R:Goroutine->LH->Prop} {cs:List Frame}
variable {args:List Value}{tmps:Array Value}{h:LH}{todo:List Item}{fd:Func}{g:FuncId}{i0 d:Nat}
theorem Yv{n:Nat}(hlen:args.length<=4096):Sim (fun x=>x) [] (fun _=>False) (argsEnv 0 args) (args.toArray++Array.replicate n undef) (fun _=>none):=by
 refine⟨?_,?_,?_,?_,?_,?_⟩
 ·intro i a g b e;obtain⟨v,rfl,_,h3,d⟩:=Jo b;rw[Array.getElem?_append_left (by simpa using h3)];simpa[conc] using d
 ·intro s v c b;obtain⟨_,_,_,h3,_⟩:=Jo b;omega
 ·intro s v c b;obtain⟨_,_,_,h3,_⟩:=Jo b;omega
 ·intro s h a f c _ b;obtain⟨_,_,_,h3,_⟩:=Jo b;omega
 ·intro s v c b;obtain⟨_,_,_,h3,_⟩:=Jo b;omega
 ·intro s v c b;obtain⟨_,_,_,h3,_⟩:=Jo b;omega
theorem ret_of{σ:Nat->Nat}{ro:List Nat}{PB:Nat->Prop}{e:Env}{hp:Cells}{Q:Leaf->LH->Prop}{fn:FI}(d:C.P.funcs[fn.fn]?=some fd)(s:Sim σ ro PB e tmps hp)(c:Disj h.get hp)
 (hw:(resT C e fd.results.toList retL).wp XT C.P Q h):∃ v,Q (.ret v) h/\Ret C.P fn.kd { mkF fn [] none tmps todo with mode:=.returning } v (h.get.add hp):=by
 obtain⟨vs,h0,h1,h2⟩:=resT_wp s c hw;have hv:∃ v,Q (.ret v) h/\v=(if g:vs.length=1 then vs[0] else .tuple vs.toArray):=by
  match vs,h1 with
  | [],h1=>exact⟨_,h1,rfl⟩
  | [v],h1=>exact⟨v,h1,rfl⟩
  | a::b::l,h1=>exact⟨_,h1,by simp⟩
 obtain⟨v,f,hv⟩:=hv;refine⟨v,f,rfl,rfl,rfl,fd,d,?_⟩;unfold results;rw[lwp_bind,Array.mapM_eq_mapM_toList,<- bind_pure_comp,lwp_bind];refine h2 _ ?_;rw[Qg,Qg];refine⟨?_,rfl⟩;rw[hv];simp
def closT(C:Ctx)(d:Nat)(rest:Code)(cap:List Value)(v:Value):T:=tree C false [] rest ((d,.val v)::argsEnv 0 cap) fun x _=>match x with
 | .exit _=>.fail
 | _=>.leaf (.ret (.tuple #[]))
theorem fw_recover(b:Closed XT C.P main R){cap:List Value}{o:Oper}{rest:Code}{v:Value}{c c' c'':Frame}{Q:LH->Prop}{ats:Array TypeId}
 (H:C.P.funcs[g]?=some fd)(hb:fd.body=some (.seq (.region i0 #[o] false) rest))(F:o.op=.call { callee:=.builtin .recover,args:=#[],argTypes:=ats })(f:o.dst=some d)(E:∀ y,Region.wanted o y=true)(s:fd.results=#[])
 (a:(Nat.ble (lenL cap) 4096&&(Nat.ble fd.ntmps 4096&&allBelow fd.ntmps (match fd.body with|some c=>dsts c|none=>[])))=true)
 (i:RecTo c v c' c'')(K:(closT C d rest cap v).wp XT C.P (retQ fun _=>Q) h)
 (M:∀ h' k,Disj h'.get k->Q h'->R (G c'' cs) (h'.add k)):R (G (Frame.enter C.P g cap.toArray .deferred) (c::cs)) h:=by
 rw[hb]at a;simp only[Bool.and_eq_true]at a;have hlen:=Nat.le_of_ble_eq_true a.1;have q:=Nat.le_of_ble_eq_true a.2.1;have B:=Ky a.2.2;rw[Wh]at hlen;let fn:FI:=⟨g,.deferred,by simp⟩
 have D:Frame.enter C.P g cap.toArray .deferred=mkF fn [] none (cap.toArray++Array.replicate (fd.ntmps-cap.length) undef) [.code (.seq (.region i0 #[o] false) rest)]:=by
  simp[Frame.enter,H,hb,mkF,fn]
 rw[D];have I:(fd.ntmps:Nat)<=(cap.toArray++Array.replicate (fd.ntmps-cap.length) undef).size:=by simp;omega
 have u:∀ x,x∈dsts (.seq (.region i0 #[o] false) rest)->x<fd.ntmps:=B;have S:dsts (.seq (.region i0 #[o] false) rest)=dsts (.region i0 #[o] false)++dsts rest:=by rw[dsts.eq_2,Qw]
 rw[S]at u;have m:d<fd.ntmps:=u d (List.mem_append.2 (.inl (K4 (o:=o) (by simp) f)));refine Gj b.1 (Kh b.1 ?_);show R (G (mkF fn [] none _ (.inRegion #[o] [0]::[.code rest])) (c::cs)) h;refine mv_recover b.1 rfl (v:=v) (c:=c) (c':=c') (c'':=c'') (o:=o) rfl (E _) F i ?_;have p:(mkF fn [] none (cap.toArray++Array.replicate (fd.ntmps-cap.length) undef) (.inRegion #[o] [0]::[.code rest])).finish v=mkF fn [] none ((cap.toArray++Array.replicate (fd.ntmps-cap.length) undef).setIfInBounds d v) (.inRegion #[o] []::[.code rest]):=by
  simp[mkF,Frame.finish,f]
 rw[p];refine Wg b.1 ?_;have t:=(Yv (n:=fd.ntmps-cap.length) hlen).put (some d) (fun V A=>by cases A;exact⟨Nat.lt_of_lt_of_le m I,Nat.lt_of_lt_of_le m q⟩) (.val v) v (fun _=>rfl);rw[<- Ko h];refine Qu (fn:=fn) (ds:=[]) (rd:=none) Gh b ⟨trivial,fun _ _ _=>trivial⟩ rest false [] _ ((d,.val v)::argsEnv 0 cap) _ _ [] (fun x=>x) (fun _=>none) h _ (by intro L;cases L) t (fun _=>.inr rfl) (fun _ h=>h.elim) (fun x O=>?_) K ?_
 ·have h2:=u x (List.mem_append.2 (.inr O));refine⟨?_,Nat.lt_of_lt_of_le h2 q⟩;rw[Array.size_setIfInBounds];exact Nat.lt_of_lt_of_le h2 I
 intro y W t4 U r z J w f4 l;have fin:Q z->∀ todo,R (G { mkF fn [] none t4 todo with mode:=.returning } (c'::cs)) (z.add r):=by
  intro N todo;refine ret_stepR b.1 (v:=.tuple #[]) i ⟨rfl,rfl,rfl,fd,H,?_⟩ (M z r w N);have e:results fd t4=pure (.tuple #[]):=by simp[results,s]
  show Qe C.P (results fd t4) _ _ _;rw[e];exact⟨rfl,rfl⟩
 cases y with
 | fall=>exact mv_end b.1 (fin l _)
 | ret=>exact fun k'=>mv_ret b.1 (fin l _)
 | exit j=>exact l.elim
theorem take_marksD(m:LClosed C.P main R){fn:FI}{ds:List Deferred}:∀ (mk:List Nat) (hp:Cells),mk.Nodup->Disj h.get hp->(∀ r∈mk,hp r=some (true,.deferred (some []))) ->
  (∀ a,Disj h.get a->(∀ b,b∉mk->a b=hp b)->R (G { mkF fn ds none tmps todo with mode:=.returning } cs) (h.add a))->R (G { mkF fn (mk.map markOf++ds) none tmps todo with mode:=.returning } cs) (h.add hp):=by
 intro mk
 induction mk with
 | nil=>intro hp _ d _ g;exact g hp d fun _ _=>rfl
 | cons r mk o =>
  intro hp n d hm g;have hr:=hm r (by simp);have c:h.get r=none:=by
   rcases d r with h'|h'
   ·exact h'
   ·rw[hr]at h';cases h'
  refine mv_takeDeferred m (r:=r) (by show h.get.add hp r=_;rw[Qk c];exact hr) ?_;have e:(h.get.add hp).upd r (true,.deferred none)=h.get.add (hp.upd r (true,.deferred none)):=by
   funext b;unfold Cells.upd Cells.add;by_cases e:b=r
   ·subst e;simp[c]
   ·simp[e]
  show R _ { h.add hp with get:=(h.get.add hp).upd r (true,.deferred none) };rw[e];have f:=List.nodup_cons.1 n;refine o (hp.upd r (true,.deferred none)) f.2 ?_ (fun q k=>?_) fun a l i=>g a l fun b hb=>?_
  ·intro b;by_cases e:b=r
   ·subst e;exact .inl c
   ·rw[Qp _ _ e];exact d b
  ·have j:q≠r:=by rintro rfl;exact f.1 k
   rw[Qp _ _ j];exact hm q (by simp[k])
  ·rw[i b (fun h=>hb (by simp[h])),Qp _ _ (fun e=>hb (by simp[e]))]
section
variable {Q:Leaf->LH->Prop} {fn:FI} {ds:List Deferred} {rd:Option Nat}
theorem opsT_head{X:XP}{ops:Array Oper}{k:List Item}{ro:List Nat}{PB:Nat->Prop}{D:List Nat}{J:Env->T}{q:Bool}(U:XOK X)(S:Closed X C.P main R)(I:X.hat C.P fn ds rd cs)(O:List Nat):∀ (l:List Nat) {σ:Nat->Nat} {e:Env} {tmps:Array Value} {hp:Cells} {h:LH},
  (∀ i∈l,∀ o,ops[i]?=some o->∀ d,o.dst=some d->d∈D/\d<tmps.size/\d<4096) ->
  Sim σ ro PB e tmps hp->Disj h.get hp->(∀ b,PB b->∃ x,hp b=some x)->(opsT C false ro q ops l e J).wp X C.P Q h->Behind X C.P R fn ds rd cs (.inRegion ops O::k) D ro PB σ tmps hp J Q ->
  R (G (mkF fn ds rd tmps (.inRegion ops (l++O)::k)) cs) (h.add hp):=by
 intro l
 induction l with
 | nil=>intro σ e tmps hp h u s v c f F;exact F e tmps σ hp h s v Fr.refl f
 | cons i l Z =>
  intro σ e tmps hp h u s v c f F;unfold opsT at f;cases p:ops[i]? with
  | none=>rw[p]at f;exact f.elim
  | some o =>
   rw[p]at f;have B:(guardT C false ro q ops o e fun N=>opsT C false ro q ops l N J).wp X C.P Q h:=by
    cases l<;>exact f
   refine Wj (fin:=false) U S I (by intro W;cases W) p (fun d a=>(u i (by simp) o p d a).2) s v c B ?_;intro N M a0 Y h' s' w z n;refine Z (fun j V o' H d a=>?_) s' w (fun b hb=>by rw[z.prot b hb];exact c b hb) n ?_
   ·rw[z.size];exact u j (by simp[V]) o' H d a
   ·intro y L t r h'' K m A E;refine F y L t r h'' K m (z.trans A ?_ (fun _ h=>h)) E;intro d a;cases g:o.dst with
    | none=>rw[g]at a;simp at a
    | some d'=>rw[g]at a;simp at a;subst a;exact(u i (by simp) o p d g).1
end
def cloC(C:Ctx)(lg jg:List LoopNote):Ctx:={ P:=C.P,priv:=[],loops:=lg,joins:=jg,kd:=.deferred }
def postT(C:Ctx)(post:Code)(F:Env->LH->Prop):LExit->Env->T:=fun x e=>match x with
 | .fall=>tree C false [] post e fun y e=>match y with
  | .exit _=>.fail
  | _=>.mem (F e) (.leaf (.ret undef))
 | _=>.fail
def lastW(C:Ctx)(lg jg:List LoopNote)(fd:Func)(d:Nat)(restg:Code)(cap:List Value)(v:Value)(Q:Value->LH->Prop)(e:Env)(h:LH):Prop :=
 (closT (cloC C lg jg) d restg cap v).wp XT C.P (retQ fun _ h'=>(resT C e fd.results.toList retL).wp XT C.P (retQ Q) h') h
def fromLoop(C:Ctx)(lg jg:List LoopNote)(fd fg:Func)(g d id:Nat)(restg asq bd post:Code)(ps:Array Tmp)(fo:Operand)(Q:Value->LH->Prop)(e:Env)(fv:Value)(h:LH):Prop :=
 ∃ (cap:List Value) (hA hx:LH) (kres:Cells) (V:Value->Prop) (F:Env->LH->Prop),fv=.func (.func g) #[] cap.toArray/\(Nat.ble (lenL cap) 4096&&(Nat.ble fg.ntmps 4096&&allBelow fg.ntmps (match fg.body with|some c=>dsts c|none=>[])))=true/\h=hA.add kres/\Disj hA.get kres /\
  (∀ X,PX X V hx->(rfT C id fo ps asq bd e (afterT C.P anyQ kres (postT C post F))).wp X C.P anyQ hA)/\(∀ e h,F e h->lastW C lg jg fd d restg cap .nilIface Q e h) /\
  Disj hx.get kres/\∀ v₀,V v₀->lastW C lg jg fd d restg cap v₀ Q (valsOf e fd.results.toList) (hx.add kres)
def Qc(Q:Value->LH->Prop):Leaf->LH->Prop:=fun l h=>match l with
 | .ret v=>Q v h
 | .again _=>True
 | _=>False
def catchT(C:Ctx)(lg jg:List LoopNote)(fd fg:Func)(g d id n4:Nat)(r0 r3 r4 r5:Array Oper)(B restg asq bd post:Code)(ps:Array Tmp)(fo x:Operand)(Q:Value->LH->Prop)(args:List Value):T :=
 opsT C false [] false r0 (upto 0 r0.size) (argsEnv 0 args) fun e=>tree C false [] B e fun y e=>match y with
  | .exit _=>.fail
  | .ret=>resT C e fd.results.toList retL
  | .fall=>opsT C false [] false r3 (upto 0 r3.size) e fun e=>opsT C false [] false r4 (upto 0 n4) e fun e=>withV (opdA e x) fun fv=>.mem (fun _=>∃ cap:List Value,fv=.func (.func g) #[] cap.toArray) (opsT C false [] false r5 (upto 0 r5.size) e fun e =>
    .mem (fromLoop C lg jg fd fg g d id restg asq bd post ps fo Q e fv) (.leaf (.again [])))
theorem fw_catch(hkd:C.kd=.normal){f:FuncId}{fg:Func}{Q:Value->LH->Prop}{i3 i4 i5 id n4 ig:Nat}{r0 r3 r4 r5:Array Oper}{B post asq bd restg:Code}{ps:Array Tmp}{fo x:Operand}{od og:Oper}{ats atg:Array TypeId}{lg jg:List LoopNote}
 (hf : C.P.funcs[f]? = some fd)(hn : (fd.name == "runtime.NumGoroutine") = false)
 (hb:fd.body=some (.seq (.region i0 r0 false) (.seq B (.seq (.region i3 r3 false) (.seq (.region i4 r4 false) (.seq (.seq (.region i5 r5 false) (.block id (.rangeFunc fo ps asq bd))) post))))))
 (hn4:r4.size=n4+1)(hod0:r4[n4]?=some od)(hod:od.op=.defer { callee:=.value x,args:=#[],argTypes:=ats })(hdst:od.dst=none)(hgu:∀ y,Region.wanted od y=true)
 (hfg : C.P.funcs[g]? = some fg)(hng : (fg.name == "runtime.NumGoroutine") = false)(hbg : fg.body = some (.seq (.region ig #[og] false) restg))(hog : og.op = .call { callee := .builtin .recover, args := #[], argTypes := atg })(hdg : og.dst = some d)(hgg : ∀ y, Region.wanted og y = true)(hrg : fg.results = #[])
 (hchk:(Nat.ble (lenL args) 4096&&(Nat.ble fd.ntmps 4096&&allBelow fd.ntmps (match fd.body with|some c=>dsts c|none=>[])))=true)
 (hT:(catchT C lg jg fd fg g d id n4 r0 r3 r4 r5 B restg asq bd post ps fo x Q args).wp XT C.P (Qc Q) h):FW XT C.P f args.toArray h Q:=by
 rw[hb]at hchk;simp only[Bool.and_eq_true]at hchk;have hlen:=Nat.le_of_ble_eq_true hchk.1;have hnt:=Nat.le_of_ble_eq_true hchk.2.1;have hds:=Ky hchk.2.2;rw[Wh]at hlen;refine⟨⟨fd,hf,by rw[hb];rfl,hn⟩,?_⟩;intro main R hR cs _ hk;let fn:FI:=⟨f,.normal,by simp⟩
 let whole:Code:=.seq (.region i0 r0 false) (.seq B (.seq (.region i3 r3 false) (.seq (.region i4 r4 false) (.seq (.seq (.region i5 r5 false) (.block id (.rangeFunc fo ps asq bd))) post))));have hen:Frame.enter C.P f args.toArray .normal=mkF fn [] none (args.toArray++Array.replicate (fd.ntmps-args.length) undef) [.code whole]:=by
  simp[Frame.enter,hf,hb,mkF,fn,whole]
 rw[hen];rw[<- Ko h];have all:XT.all:=fun _ _=>trivial;have hat:∀ ds,XT.hat C.P fn ds none cs:=fun ds=>XP.hat_all all trivial ds none;have dd:∀ d,d∈dsts whole->d<fd.ntmps:=hds;have s0:dsts whole=dsts (.region i0 r0 false)++(dsts B++(dsts (.region i3 r3 false)++(dsts (.region i4 r4 false)++((dsts (.region i5 r5 false)++wrOf ps asq bd)++dsts post)))):=by
  show dsts (.seq _ _)=_;rw[dsts.eq_2,Qw,dsts.eq_2,Qw,dsts.eq_2,Qw,dsts.eq_2,Qw,dsts.eq_2,Qw,dsts.eq_2,Qw];rfl
 rw[s0]at dd;have inR:∀ (i:Nat) (r:Array Oper) (l:List Nat),∀ j∈l,∀ o,r[j]?=some o->∀ d,o.dst=some d->d∈dsts (.region i r false):=fun i r l j _ o ho d hd=>K4 (Array.mem_toList_iff.2 (Array.mem_of_getElem? ho)) hd;unfold catchT at hT;have hs:(fd.ntmps:Nat)<=(args.toArray++Array.replicate (fd.ntmps-args.length) undef).size:=by simp;omega
 have bd':∀ (n:Nat),fd.ntmps<=n->∀ (d:Nat),d<fd.ntmps->d<n/\d<4096:=fun n hn d hd=>⟨Nat.lt_of_lt_of_le hd hn,Nat.lt_of_lt_of_le hd hnt⟩
 -- results
 have leave:∀ {σ:Nat->Nat} {ro:List Nat} {PB:Nat->Prop} {e:Env} {t:Array Value} {hp:Cells} {h':LH} {Ql:Leaf->LH->Prop},Sim σ ro PB e t hp->Disj h'.get hp->(resT C e fd.results.toList retL).wp XT C.P Ql h'->(∀ v,Ql (.ret v) h'->Q v h')->∀ todo,R (G { mkF fn [] none t todo with mode:=.returning } cs) (h'.add hp):=by
  intro σ ro PB e t hp h' Ql s dj hw hq todo;obtain⟨v,hv,hret⟩:=ret_of (fn:=fn) (todo:=todo) hf s dj hw;exact hk _ v h' hp rfl dj hret (hq v hv)
 -- the first region
 refine Gj hR.1 (Kh hR.1 ?_);rw[<- Kb];refine W1 (fn:=fn) (ds:=[]) (rd:=none) (D:=dsts (.region i0 r0 false)) Gh hR (hat _) (by intro hh;cases hh) _ (fun i hi o ho d hd=>?_) (σ:=fun x=>x) (PB:=fun _=>False) (Yv hlen) (fun _=>.inr rfl) (fun _ h=>h.elim) hT ?_
 ·have h1:=inR i0 r0 _ i hi o ho d hd;exact⟨h1,bd' _ hs d (dd d (by simp[h1]))⟩
 intro e1 t1 σ1 hp1 h1 sim1 dj1 f1 hT1;have z1:t1.size=_:=f1.size
 -- what may leave early
 refine Gj hR.1 ?_;refine Qu (fn:=fn) (ds:=[]) (rd:=none) Gh hR (hat _) B false [] _ e1 _ t1 _ σ1 hp1 h1 _ (by intro hh;cases hh) sim1 dj1 (fun _ h=>h.elim) (fun d hd=>?_) hT1 ?_
 ·exact bd' _ (by rw[z1];exact hs) d (dd d (by simp[hd]))
 intro y e2 t2 σ2 hp2 h2 sim2 dj2 f2 hT2;have z2:t2.size=_:=f2.size;cases y with
 | exit j=>exact hT2.elim
 | ret=>exact fun k'=>mv_ret hR.1 (leave sim2 dj2 hT2 (fun v hv=>hv) _)
 | fall =>
 refine Gj hR.1 (Kh hR.1 ?_);rw[<- Kb];refine W1 (fn:=fn) (ds:=[]) (rd:=none) (D:=dsts (.region i3 r3 false)) Gh hR (hat _) (by intro hh;cases hh) _ (fun i hi o ho d hd=>?_) sim2 dj2 (fun _ h=>h.elim) hT2 ?_
 ·have h1:=inR i3 r3 _ i hi o ho d hd;exact⟨h1,bd' _ (by rw[z2,z1];exact hs) d (dd d (by simp[h1]))⟩
 intro e3 t3 σ3 hp3 h3 sim3 dj3 f3 hT3;have z3:t3.size=_:=f3.size;refine Gj hR.1 (Kh hR.1 ?_);have hrange:List.range r4.size=upto 0 n4++[n4]:=by rw[Kb,hn4,List.range_succ]
 rw[hrange];refine opsT_head (fn:=fn) (ds:=[]) (rd:=none) (D:=dsts (.region i4 r4 false)) Gh hR (hat _) _ _ (fun i hi o ho d hd=>?_) sim3 dj3 (fun _ h=>h.elim) hT3 ?_
 ·have h1:=inR i4 r4 _ i hi o ho d hd;exact⟨h1,bd' _ (by rw[z3,z2,z1];exact hs) d (dd d (by simp[h1]))⟩
 intro e4 t4 σ4 hp4 h4 sim4 dj4 f4 hT4;have z4:t4.size=_:=f4.size;obtain⟨fv,hfv,hT5⟩:=Qq hT4;clear hT4;obtain⟨⟨cap,hcap⟩,hT6⟩:=hT5;let dc:Deferred:={ target:=.fn (.func g) cap.toArray,args:=#[] }
 refine mv_defer (g:=g) (cap:=cap.toArray) hR.1 hod0 (hgu _) hod hdst ?_ ?_
 ·have:=opdVal sim4 (fr:=mkF fn [] none t4 (.inRegion r4 [n4]::.code (.seq (.seq (.region i5 r5 false) (.block id (.rangeFunc fo ps asq bd))) post)::[])) rfl x fv hfv;rw[<- hcap];exact this
 refine Wg hR.1 ?_;refine Gj hR.1 (Gj hR.1 (Kh hR.1 ?_));rw[<- Kb];refine W1 (fn:=fn) (ds:=[dc]) (rd:=none) (D:=dsts (.region i5 r5 false)) Gh hR (hat _) (by intro hh;cases hh) _ (fun i hi o ho d hd=>?_) sim4 dj4 (fun _ h=>h.elim) hT6 ?_
 ·have h1:=inR i5 r5 _ i hi o ho d hd;exact⟨h1,bd' _ (by rw[z4,z3,z2,z1];exact hs) d (dd d (by simp[h1]))⟩
 intro e5 t5 σ5 hp5 h5 sim5 dj5 f5 hT7;have z5:t5.size=_:=f5.size;have hT8:=hT7.1;clear hT7;obtain⟨cap',hA,hx,kres,V,F,hc',hchkg,rfl,dr,hloop,hF,dxk,hlast⟩:=hT8;have hcc:cap'=cap:=by
  rw[hcap]at hc';have:=(Value.func.inj hc').2.2;simpa using this.symm
 subst hcc
 -- the deferred call, and the results
 have body:fg.body.isSome=true:=by rw[hbg];rfl
 have last:∀ {R':Goroutine->LH->Prop} {cs':List Frame} {c c' c'':Frame} {v:Value} {e:Env} {h':LH},Closed XT C.P main R'->RecTo c v c' c''->lastW C lg jg fd d restg cap' v Q e h' ->
   (∀ h'' k,Disj h''.get k->(resT C e fd.results.toList retL).wp XT C.P (retQ Q) h''->R' (G c'' cs') (h''.add k))->R' (G (Frame.enter C.P g cap'.toArray .deferred) (c::cs')) h':=by
  intro R' cs' c c' c'' v e h' hR' hrec hl hk';exact fw_recover (C:=cloC C lg jg) (R:=R') hR' hfg hbg hog hdg hgg hrg hchkg hrec hl hk'
 refine rf_soundC (fn:=fn) (Q:=anyQ) hR (V:=V) dr sim5 dj5 (fun _ h=>h.elim) (fun d hd=>?_) hloop ?_ ?_
 ·exact bd' _ (by rw[z5,z4,z3,z2,z1];exact hs) d (dd d (by simp[hd]))
 ·-- a panic
  intro v₀ hv₀ r todo h' dK hkr hsame;have hM:(kres.add (oneC r (.deferred (some [])))) r=some (true,.deferred (some [])):=by rw[Qk hkr];exact Z0 _ _
  have hr':h'.get r=none:=by
   rcases dK r with h1|h1
   ·exact h1
   ·rw[hM]at h1;cases h1
  show R (G { mkF fn (markOf r::[dc]) none t5 todo with mode:=.panicking [entryOf v₀] } cs) _;refine mv_takeDeferredM hR.1 (by simp) (r:=r) (by show (h'.get.add _) r=_;rw[Qk hr'];exact hM) ?_;refine mv_unwind hR.1 (by simp) hfg body hng ?_;let rest:Cells:=(minusC hx.get h'.get).add (oneC r (.deferred none));have hxr:hx.get r=none:=by
   cases hy:hx.get r with
   | none=>rfl
   | some y=>rw[hsame.1 _ _ hy]at hr';cases hr'
  have dkr:Disj (hx.add kres).get rest:=by
   intro b;by_cases hb':b=r
   ·subst hb';left;show (hx.get.add kres) b=none;rw[Qk hxr];exact hkr
   ·have n1:oneC r (.deferred none) b=none:=Kw hb';show (hx.get.add kres) b=none\/((minusC hx.get h'.get).add _) b=none;cases hy:hx.get b with
    | some y =>
     right;rw[Qk (by unfold minusC;rw[hy])];exact n1
    | none =>
     rw[Qk hy];rcases dK b with h1|h1
     ·right;rw[Qk (by unfold minusC;rw[hy];exact h1)];exact n1
     ·left;cases hz:kres b with
      | none=>rfl
      | some y=>rw[Qi hz]at h1;cases h1
  have heq:({ h'.add (kres.add (oneC r (.deferred (some [])))) with get:=(h'.add (kres.add (oneC r (.deferred (some []))))).get.upd r (true,.deferred none) }:LH)=(hx.add kres).add rest:=by
   have e1:(h'.add (kres.add (oneC r (.deferred (some []))))).get.upd r (true,.deferred none)=(hx.get.add kres).add rest:=by
    funext b;show (h'.get.add _).upd r _ b=((hx.get.add kres).add ((minusC hx.get h'.get).add _)) b;unfold Cells.upd;by_cases hb':b=r
    ·subst hb';rw[if_pos rfl,Qk (by rw[Qk hxr];exact hkr),Qk (by unfold minusC;rw[hxr];exact hr'),Z0]
    ·rw[if_neg hb'];have e2:=dK b;have e4:=dxk b;have n1:oneC r (.deferred (some [])) b=none:=Kw hb';have n2:oneC r (.deferred none) b=none:=Kw hb';have e3:∀ y,hx.get b=some y->h'.get b=some y:=fun y hy=>hsame.1 _ _ hy;unfold Cells.add minusC at *;rw[n1]at e2 ⊢;rw[n2];generalize h'.get b=xa at *;generalize kres b=xb at *;generalize hx.get b=xc at *;cases xc with
     | none=>cases xa<;>cases xb<;>simp_all
     | some y=>have:=e3 y rfl;subst this;cases xb<;>simp_all
   obtain⟨_,g1,g2,g3⟩:=hsame;unfold LH.add;show ({ get:=_,chans:=h'.chans,pend:=h'.pend,todo:=h'.todo }:LH)={ get:=(hx.get.add kres).add rest,chans:=hx.chans,pend:=hx.pend,todo:=hx.todo };rw[g1,g2,g3];congr 1
  rw[heq];refine last (R':=fun g h=>Disj h.get rest->R g (h.add rest)) (hR.frame Gh rest) (RecTo.some v₀ rfl) (hlast v₀ hv₀) ?_ dkr;intro h'' k' d' hw dk;have d1:Disj h''.get rest:=dk.of_add_left;have d2:Disj k' rest:=Qx d' dk;have e9:(h''.add k').add rest=h''.add (k'.add rest):=by unfold LH.add;simp only;rw[Hm]
  rw[e9];have:=leave (valsOf_sim sim5 fd.results.toList) (fun _=>.inr rfl) hw (fun v hv=>hv) todo;rw[Ko]at this;exact hR.1.up _ _ _ this (Disj.add d'.symm d1.symm).symm
 ·-- no panic
  intro x e' t' σ' hp' h' PB' mk s' dj' f' h1 h2 h3 h4' h5' hT';have zz:t'.size=_:=f'.size;cases x with
  | ret=>exact hT'.elim
  | exit j=>exact hT'.elim
  | fall =>
  refine Qu (fn:=fn) (ds:=mk.map markOf++[dc]) (rd:=none) Gh hR (hat _) post false [] PB' e' _ t' [] σ' hp' h' _ (by intro hh;cases hh) s' dj' h2 (fun d hd=>?_) hT' ?_
  ·exact bd' _ (by rw[zz,z5,z4,z3,z2,z1];exact hs) d (dd d (by simp[hd]))
  intro y e6 t6 σ6 hp6 h6 sim6 dj6 f6 hT9;have fin:lastW C lg jg fd d restg cap' .nilIface Q e6 h6->∀ todo,R (G { mkF fn (mk.map markOf++[dc]) none t6 todo with mode:=.returning } cs) (h6.add hp6):=by
   intro hl todo;refine take_marksD hR.1 mk hp6 h4' dj6 (fun r hr=>by rw[f6.prot r (h3 r hr).1];exact(h3 r hr).2) fun hp7 dj7 hsame=>?_;refine mv_unwind hR.1 (by simp) hfg body hng ?_;refine last (R':=fun g h=>Disj h.get hp7->R g (h.add hp7)) (hR.frame Gh hp7) (RecTo.none rfl) hl ?_ dj7;intro h'' k' d' hw dk;have d1:Disj h''.get hp7:=dk.of_add_left;have d2:Disj k' hp7:=Qx d' dk;have e9:(h''.add k').add hp7=(h''.add hp7).add k':=by unfold LH.add;simp only;rw[Q4 d2]
   rw[e9];have s7:Sim σ6 [] PB' e6 t6 hp7:=by
    refine⟨sim6.slot,fun t v ht hg=>?_,sim6.only,sim6.inj,sim6.prot,sim6.cover⟩;obtain⟨c,el,q1,q2⟩:=sim6.cell t v ht hg;refine⟨c,el,?_,q2⟩;rw[hsame]
    ·exact q1
    ·intro hm;rw[f6.prot _ (h3 _ hm).1,(h3 _ hm).2]at q1;cases q1
   exact hR.1.up _ _ _ (leave s7 d1 hw (fun v hv=>hv) todo) (Disj.add d' d2.symm)
  cases y with
  | fall=>exact mv_end hR.1 (fin (hF _ _ hT9.1) _)
  | ret=>exact fun k'=>mv_ret hR.1 (fin (hF _ _ hT9.1) _)
  | exit j=>exact hT9.elim
end
end
section
section
variable {P:Program} {main:Bool} {R:Goroutine->LH->Prop} {cs:List Frame}
theorem mv_panicOp(d:LClosed P main R){fn:FI}{ds:List Deferred}{tmps:Array Value}{k:List Item}{h:LH}{ops:Array Oper}{i:Nat}{rest:List Nat}{o:Oper}{x:Operand}{t:TypeId}{v:Value}
 (f:ops[i]?=some o)(hw:Region.wanted o (yielded ops tmps)=true)(a:o.op=.panic x)(g:(mkF fn ds none tmps (.inRegion ops (i::rest)::k)).eval x=.iface t v)
 (e:R (G ((mkF fn ds none tmps (.inRegion ops (i::rest)::k)).raise [entryOf (.iface t v)]) cs) h):R (G (mkF fn ds none tmps (.inRegion ops (i::rest)::k)) cs) h:=by
 refine Jb d (fun w=>?_) e;have he:execOp (mkF fn ds none tmps (.inRegion ops (i::rest)::k)).eval o=(do pure (Next.value (<- Instr.panic (.iface t v)))):=by
  unfold execOp;simp only[a,g]
 have c:((do pure (Next.value (<- Instr.panic (.iface t v))):Sem Next)).runT P w #[]=(.halt (.panic (.iface t v)) w,#[]):=rfl;have b:((mkF fn ds none tmps (.inRegion ops (i::rest)::k)).kind==CallKind.early)=false:=by simpa[mkF] using fn.ok
 rw[Gu f hw (by simp[notDefer,a]),he];simp only[stepG.apply,if_true,c,b];simp[mkF,GStep.after,G,Frame.raise,seen_none,entryOf]
end
section
variable {C:Ctx}
def panicT(C:Ctx)(r0 r1:Array Oper)(n1:Nat)(c x:Operand)(t:TypeId)(v:Value)(h₀:LH)(args:List Value):T :=
 opsT C false [] false r0 (upto 0 r0.size) (argsEnv 0 args) fun e=>withV (opdA e c) fun b=>.need (b=.bool true) (opsT C false [] false r1 (upto 0 n1) e fun e=>withV (opdA e x) fun w=>.need (w=.iface t v) (.mem (fun h=>h₀.le h) (.leaf (.again []))))
theorem fw_panics{X:XP}{t:TypeId}{v:Value}{h₀:LH}{V:Value->Prop}(px:PX X V h₀)(hV:V (.iface t v)){f:FuncId}{fd:Func}{args:List Value}{h:LH}{Q:Value->LH->Prop}{i0 i1 n1:Nat}{r0 r1:Array Oper}{els:Code}{c x:Operand}{op:Oper}
 (hf : C.P.funcs[f]? = some fd)(hn : (fd.name == "runtime.NumGoroutine") = false)(hb : fd.body = some (.seq (.region i0 r0 false) (.cond c (.region i1 r1 false) els)))
 (hn1:r1.size=n1+1)(hop0:r1[n1]?=some op)(hop:op.op=.panic x)(hgu:∀ y,Region.wanted op y=true)
 (hchk:(Nat.ble (lenL args) 4096&&(Nat.ble fd.ntmps 4096&&allBelow fd.ntmps (match fd.body with|some c=>dsts c|none=>[])))=true)
 (hT:(panicT C r0 r1 n1 c x t v h₀ args).wp X C.P anyQ h):FW X C.P f args.toArray h Q:=by
 rw[hb]at hchk;simp only[Bool.and_eq_true]at hchk;have hlen:=Nat.le_of_ble_eq_true hchk.1;have hnt:=Nat.le_of_ble_eq_true hchk.2.1;have hds:=Ky hchk.2.2;rw[Wh]at hlen;refine⟨⟨fd,hf,by rw[hb];rfl,hn⟩,?_⟩;intro main R hR cs hst hk;let fn:FI:=⟨f,.normal,by simp⟩
 have hen:Frame.enter C.P f args.toArray .normal=mkF fn [] none (args.toArray++Array.replicate (fd.ntmps-args.length) undef) [.code (.seq (.region i0 r0 false) (.cond c (.region i1 r1 false) els))]:=by
  simp[Frame.enter,hf,hb,mkF,fn]
 rw[hen,<- Ko h];have hat:X.hat C.P fn [] none cs:=Hn px.ok hst;have dd:∀ d,d∈dsts (.seq (.region i0 r0 false) (.cond c (.region i1 r1 false) els))->d<fd.ntmps:=hds;have s0:dsts (.seq (.region i0 r0 false) (.cond c (.region i1 r1 false) els))=dsts (.region i0 r0 false)++(dsts (.region i1 r1 false)++dsts els):=by
  rw[dsts.eq_2,Qw];rw[show dsts (.cond c (.region i1 r1 false) els)=appL (dsts (.region i1 r1 false)) (dsts els) from rfl,Qw]
 rw[s0]at dd;have inR:∀ (i:Nat) (r:Array Oper) (l:List Nat),∀ j∈l,∀ o,r[j]?=some o->∀ d,o.dst=some d->d∈dsts (.region i r false):=fun i r l j _ o ho d hd=>K4 (Array.mem_toList_iff.2 (Array.mem_of_getElem? ho)) hd;have hs:(fd.ntmps:Nat)<=(args.toArray++Array.replicate (fd.ntmps-args.length) undef).size:=by simp;omega
 have bd':∀ (n:Nat),fd.ntmps<=n->∀ (d:Nat),d<fd.ntmps->d<n/\d<4096:=fun n hn d hd=>⟨Nat.lt_of_lt_of_le hd hn,Nat.lt_of_lt_of_le hd hnt⟩;unfold panicT at hT;refine Gj hR.1 (Kh hR.1 ?_);rw[<- Kb];refine W1 (fn:=fn) (ds:=[]) (rd:=none) (D:=dsts (.region i0 r0 false)) px.ok hR hat (by intro hh;cases hh) _ (fun i hi o ho d hd=>?_) (σ:=fun x=>x) (PB:=fun _=>False) (Yv hlen) (fun _=>.inr rfl) (fun _ h=>h.elim) hT ?_
 ·have h1:=inR i0 r0 _ i hi o ho d hd;exact⟨h1,bd' _ hs d (dd d (by simp[h1]))⟩
 intro e1 t1 σ1 hp1 h1 sim1 dj1 f1 hT1;have z1:t1.size=_:=f1.size;obtain⟨b,hbv,hT2⟩:=Qq hT1;obtain⟨rfl,hT3⟩:=hT2;refine mv_cond hR.1 (t:=true) (sim1.eval (fn:=fn) (ds:=[]) (rd:=none) (k:=[.code (.cond c (.region i1 r1 false) els)]) hbv (by simp)) ?_;rw[if_pos rfl];refine Kh hR.1 ?_;have hrange:List.range r1.size=upto 0 n1++[n1]:=by rw[Kb,hn1,List.range_succ]
 rw[hrange];refine opsT_head (fn:=fn) (ds:=[]) (rd:=none) (D:=dsts (.region i1 r1 false)) px.ok hR hat _ _ (fun i hi o ho d hd=>?_) sim1 dj1 (fun _ h=>h.elim) hT3 ?_
 ·have h1:=inR i1 r1 _ i hi o ho d hd;exact⟨h1,bd' _ (by rw[z1];exact hs) d (dd d (by simp[h1]))⟩
 intro e2 t2 σ2 hp2 h2 sim2 dj2 f2 hT4;obtain⟨w,hwv,hT5⟩:=Qq hT4;obtain⟨rfl,hT6⟩:=hT5;refine mv_panicOp hR.1 hop0 (hgu _) hop (opdVal sim2 (fr:=mkF fn [] none t2 [.inRegion r1 [n1]]) rfl x _ hwv) ?_;refine px.pan C.P main R hR _ hV .normal _ cs _ hst ⟨rfl,rfl,?_⟩ (LH.le_trans hT6.1 ⟨fun _ _ hx=>Qi hx,rfl,rfl,rfl⟩);unfold Frame.catches;split
 ·rename_i e2;cases e2
 ·rfl
end
end
end Go.TM
section
namespace Go.Y
set_option maxHeartbeats 0
set_option linter.unusedVariables false
variable {X:XP} {h:LH} {A:Value->LH->Prop}
variable {a b c d e f g i j k l m:Int}{n o p q r s t u v w x y z:Nat}{B C D E F G H I J K L M:Option Addr}
theorem w3733{d:ByteArray}{g:Addr}:FX X 65 #[.string d,.slice B n o,.pointer (some g)] h A (.sem false (Sem.bind (eqGuard BinOp.add 9 (Operand.tmp 5) (Operand.const (.string { data:=#[58] })) (.string d) (.string { data:=#[58] })) fun e=>binOp BinOp.add 9 (.string d) (.string { data:=#[58] })) fun a=>.unStr a fun b=>.cl 36 #[.slice B n o,.string { data:=#[59] }] fun a=>.unStr a fun f=>.sem false (Sem.bind (eqGuard BinOp.add 9 (Operand.tmp 6) (Operand.tmp 8) (.string b) (.string f)) fun e=>binOp BinOp.add 9 (.string b) (.string f)) fun a=>.unStr a fun b=>.sem false (Sem.bind (eqGuard BinOp.add 9 (Operand.tmp 9) (Operand.const (.string { data:=#[59,10] })) (.string b) (.string { data:=#[59,10] })) fun e=>binOp BinOp.add 9 (.string b) (.string { data:=#[59,10] })) fun a=>.unStr a fun b=>.cT 35 #[.pointer (some g),.string b] fun a c=>.ui a fun i=>.unCons c fun a c=>.unNil c (.rt (.tuple #[]))):=fk [] [] [] Tryz.f65
theorem w3734:FX X 66 #[.slice B n o] h A (.loop [.slice none 0 0,.int .i64 0] (fun a=>.popS a fun c b d a=>.pi a fun e a=>.unNil a (bif decide (e<(↑n:Int)) then .need (0<=e/\e<(↑n:Int)) (.someA B fun g=>.li (g.add (e.toNat*1)) fun k=>.cl 86 #[k] fun f=>.unStr f fun m=>.sem false (Instr.buildSlice 81 1 #[(0,.string m)]) fun f=>.unS f fun i l j=>.sem false (Builtin.append_ #[81,81] 81 #[.slice c b d,.slice i l j]) fun f=>.unS f fun c b d=>.ag [.slice c b d,.int .i64 (wrap .i64 (e+1))]) else .bk [.slice c b d,e])) (fun a=>.popS a fun c b d a=>.pi a fun e a=>.unNil a (.rt (.slice c b d))) (fun a=>.popS a fun c b d a=>.pi a fun b a=>.unNil a (.rt (.slice none 0 0))) fun p q=>.fail):=fk [] [⟨0,[(3,.slice),(8,.int .i64)],[],[],[],[]⟩] [] Tryz.f66
theorem w3735  : FX X 68 #[] h A (.sem false (Instr.buildSlice 81 7 #[(0,.string { data:=#[97,115,107] }),(1,.string { data:=#[114,101,102,117,115,101] }),(2,.string { data:=#[108,105,102,116] }),(3,.string { data:=#[108,105,109,105,116] }),(4,.string { data:=#[102,97,108,108] }),(5,.string { data:=#[116,117,114,110] }),(6,.string { data:=#[111,108,100] })]) fun d=>.unS d fun a c b=>.rt (.slice a c b)):=fk [] [] [] Tryz.f68
theorem w3710:FX X 17 #[.agg #[a,b,c,d,e,f,.slice B n o]] h A (.cI 67 #[.agg #[a,b,c,d,e,f,.slice B n o]] fun j=>bif j != 0 then .rt (.tuple #[.string { data:=#[] },j]) else .sem false (Instr.buildSlice 47 6 #[(0,.int .i64 a),(1,.int .i64 b),(2,.int .i64 c),(3,.int .i64 d),(4,.int .i64 e),(5,.int .i64 f)]) fun i=>.unS i fun k j m=>.loop [.slice none 0 0,.int .i64 0] (fun g=>.popS g fun q z m g=>.pi g fun l g=>.unNil g (bif decide (l<(↑j:Int)) then .need (0<=l/\l<(↑j:Int)) (.someA k fun k=>.li (k.add (l.toNat*1)) fun j=>.cl 44 #[j] fun i=>.unStr i fun p=>.sem false (Instr.buildSlice 81 1 #[(0,.string p)]) fun i=>.unS i fun k j u=>.sem false (Builtin.append_ #[81,81] 81 #[.slice q z m,.slice k j u]) fun i=>.unS i fun k j m=>.ag [.slice k j m,.int .i64 (wrap .i64 (l+1))]) else .bk [.slice q z m,l])) (fun g=>.popS g fun k j m g=>.pi g fun z g=>.unNil g (.cl 43 #[.string { data:=#[116,114,101,97,116,121] },.slice k j m] fun i=>.unStr i fun p=>.loop [.string p,.int .i64 0] (fun g=>.popStr g fun p g=>.pi g fun j g=>.unNil g (bif decide (j<(↑n:Int)) then .need (0<=j/\j<(↑n:Int)) (.someA B fun k=>.li ((k.add (j.toNat*5)).add 0) fun l=>.li ((k.add (j.toNat*5)).add 1) fun Q=>.li ((k.add (j.toNat*5)).add 2) fun R=>.loadS ((k.add (j.toNat*5)).add 3) fun H E m=>.li ((k.add (j.toNat*5)).add 4) fun F=>.cl 44 #[Q] fun i=>.unStr i fun S=>.sem false (Instr.buildSlice 81 1 #[(0,.string S)]) fun i=>.unS i fun k G u=>.blk (bif l != 4 then .cl 44 #[R] fun i=>.unStr i fun p=>.sem false (Instr.buildSlice 81 1 #[(0,.string p)]) fun i=>.unS i fun q j m=>.sem false (Builtin.append_ #[81,81] 81 #[.slice k G u,.slice q j m]) fun i=>.unS i fun k j m=>.ag [.slice k j m] else .ag [.slice k G u]) (fun g=>.popS g fun k w y g=>.unNil g (.blk (bif l==4 then .cl 44 #[F] fun i=>.unStr i fun p=>.sem false (Instr.buildSlice 81 1 #[(0,.string p)]) fun i=>.unS i fun q j m=>.sem false (Builtin.append_ #[81,81] 81 #[.slice k w y,.slice q j m]) fun i=>.unS i fun k j m=>.ag [.slice k j m] else bif l==6 then .cl 44 #[F] fun i=>.unStr i fun p=>.sem false (Instr.buildSlice 81 1 #[(0,.string p)]) fun i=>.unS i fun q j m=>.sem false (Builtin.append_ #[81,81] 81 #[.slice k w y,.slice q j m]) fun i=>.unS i fun k j m=>.ag [.slice k j m] else .ag [.slice k w y]) (fun g=>.popS g fun k t v g=>.unNil g (.cl 68 #[] fun i=>.unS i fun q s a0=>.nds [.S H E m,.pp 10 3,.S k t v,l,.pp 10 0,.val (.string p)] (.need (0<=l/\l<(↑s:Int)) (.someA q fun r=>.loadStr (r.add (l.toNat*1)) fun x=>.cl 46 #[.slice H E m] fun i=>.unStr i fun U=>.loadStr (r.add (l.toNat*1)) fun V=>.ne (.string V) (.string x) (.need (0<=l/\l<(↑s:Int)) (.someA q fun J=>.ne (.pointer (some (J.add (l.toNat*1)))) (.pointer (some (r.add (l.toNat*1)))) (.nds [.pp 10 3,.S k t v,l,.pp 10 0,.val (.string p)] (.sem false (Instr.buildSlice 81 1 #[(0,.string U)]) fun i=>.unS i fun K N m=>.loadStr (r.add (l.toNat*1)) fun W=>.ne (.string W) (.string x) (.need (0<=l/\l<(↑s:Int)) (.someA q fun L=>.ne (.pointer (some (L.add (l.toNat*1)))) (.pointer (some (r.add (l.toNat*1)))) (.nds [.pp 10 3,.S k t v,l,.pp 10 0,.val (.string p)] (.sem false (Builtin.append_ #[81,81] 81 #[.slice k t v,.slice K N m]) fun i=>.unS i fun k O m=>.loadStr (r.add (l.toNat*1)) fun Y=>.ne (.string Y) (.string x) (.need (0<=l/\l<(↑s:Int)) (.someA q fun M=>.ne (.pointer (some (M.add (l.toNat*1)))) (.pointer (some (r.add (l.toNat*1)))) (.nds [.pp 10 3,l,.pp 10 0,.val (.string p)] (.cl 43 #[.string x,.slice k O m] fun i=>.unStr i fun I=>.need (0<=l/\l<(↑s:Int)) (.someA q fun k=>.ne (.pointer (some (k.add (l.toNat*1)))) (.pointer (some (r.add (l.toNat*1)))) (.nds [.pp 10 3,l,.pp 10 0,.val (.string p)] (.sem false (Sem.bind (eqGuard BinOp.add 9 (Operand.tmp 85) (Operand.tmp 97) (.string p) (.string I)) fun Z=>binOp BinOp.add 9 (.string p) (.string I)) fun i=>.unStr i fun p=>.need (0<=l/\l<(↑s:Int)) (.someA q fun k=>.ne (.pointer (some (k.add (l.toNat*1)))) (.pointer (some (r.add (l.toNat*1)))) (.nds [.pp 10 3,l,.pp 10 0] (.ag [.string p,.int .i64 (wrap .i64 (j+1))])))))))))))))))))))))) (fun g=>.popS g fun k t m g=>.unNil g (.rn [.string p,j])) fun C D=>.fail)) (fun g=>.popS g fun k w m g=>.unNil g (.rn [.string p,j])) fun C D=>.fail) else .bk [.string p,j])) (fun g=>.popStr g fun p g=>.pi g fun j g=>.unNil g (.sem false (Builtin.len_ #[9] 3 #[.string p]) fun i=>.ui i fun j=>bif decide (j>60000) then .rt (.tuple #[.string { data:=#[] },.int .i64 2]) else .rt (.tuple #[.string p,.int .i64 0]))) (fun g=>.popStr g fun p g=>.pi g fun j g=>.unNil g (.rt (.tuple #[.string { data:=#[] },.int .i64 0]))) fun C D=>.fail)) (fun g=>.popS g fun k j m g=>.pi g fun j g=>.unNil g (.rt (.tuple #[.string { data:=#[] },.int .i64 0]))) fun C D=>.fail):=fk [1,10] [⟨0,[(6,.slice),(7,.int .i64)],[1],[],[],[]⟩,⟨2,[(8,.str),(9,.int .i64)],[1],[],[],[]⟩] [⟨20,[(11,.slice)],[1,10],[],[],[]⟩,⟨18,[(11,.slice)],[1,10],[],[],[]⟩] Tryz.f17
theorem w3712{S:ByteArray}:FX X 19 #[.string S] h A (.sem false (Builtin.len_ #[9] 3 #[.string S]) fun f=>.ui f fun c=>bif decide (c>60000) then .rt (.tuple #[.agg #[.int .i64 0,.int .i64 0,.int .i64 0,.int .i64 0,.int .i64 0,.int .i64 0,.slice none 0 0],.int .i64 0,.int .i64 2]) else .cl 51 #[.string S] fun f=>.unS f fun d c e=>.loop [.int .i64 0,.int .i64 0,.int .i64 0,.int .i64 0,.int .i64 0,.int .i64 0,.int .i64 0,.int .i64 0,.int .i64 0,.slice none 0 0,.int .i64 0,.int .i64 0,.int .i64 0,.int .i64 0,.int .i64 0,.int .i64 0,.slice none 0 0] (fun a=>.pi a fun y a=>.pi a fun J a=>.pi a fun b a=>.pi a fun z a=>.pi a fun B a=>.pi a fun C a=>.pi a fun D a=>.pi a fun E a=>.pi a fun F a=>.popS a fun L I M a=>.pi a fun i a=>.pi a fun j a=>.pi a fun k a=>.pi a fun l a=>.pi a fun m a=>.pi a fun n a=>.popS a fun v o x a=>.unNil a (bif decide (b<(↑c:Int)) then .blk (.need (0<=b/\b<(↑c:Int)) (.someA d fun w=>.loadStr (w.add (b.toNat*1)) fun R=>.both (.cT 71 #[.agg #[i,j,k,l,m,n,.slice v o x],.string R,.bool (b==0)] fun f a=>.unAgg f fun Q=>.pi Q fun p U=>.pi U fun q V=>.pi V fun r W=>.pi W fun s Y=>.pi Y fun t Z=>.pi Z fun u a0=>.popS a0 fun G K H b0=>.unNil b0 (.unCons a fun f a=>.unB f fun g=>.unNil a (.nd b (.need (0<=b/\b<(↑c:Int)) (.someA d fun N=>.ne (.pointer (some (N.add (b.toNat*1)))) (.pointer (some (w.add (b.toNat*1)))) (.nds [b,.S d c e,g,.val (.agg #[p,q,r,s,t,u,.slice G K H]),.val (.tuple #[.agg #[p,q,r,s,t,u,.slice G K H],g]),b] (.need (0<=b/\b<(↑c:Int)) (.someA d fun O=>.ne (.pointer (some (O.add (b.toNat*1)))) (.pointer (some (w.add (b.toNat*1)))) (.nds [b,.S d c e,g] (.ag [g,p,q,r,s,t,u,.slice G K H])))))))))) (.nds [.B (b==0),b] (.loadStr (w.add (b.toNat*1)) fun c0=>.ne (.string c0) (.string R) (.need (0<=b/\b<(↑c:Int)) (.someA d fun G=>.ne (.pointer (some (G.add (b.toNat*1)))) (.pointer (some (w.add (b.toNat*1)))) (.nds [b,.S d c e,.val (.agg #[i,j,k,l,m,n,.slice v o x])] (.cT 71 #[.agg #[i,j,k,l,m,n,.slice v o x],.string R,.bool (b==0)] fun f a=>.unAgg f fun Q=>.pi Q fun p U=>.pi U fun q V=>.pi V fun r W=>.pi W fun s Y=>.pi Y fun t Z=>.pi Z fun u a0=>.popS a0 fun N K H b0=>.unNil b0 (.unCons a fun f a=>.unB f fun g=>.unNil a (.nd b (.need (0<=b/\b<(↑c:Int)) (.someA d fun O=>.ne (.pointer (some (O.add (b.toNat*1)))) (.pointer (some (w.add (b.toNat*1)))) (.nds [b,.S d c e,g] (.ag [g,p,q,r,s,t,u,.slice N K H])))))))))))))) (fun a=>.popB a fun g a=>.pi a fun c a=>.pi a fun p a=>.pi a fun q a=>.pi a fun r a=>.pi a fun s a=>.pi a fun t a=>.popS a fun d u e a=>.unNil a (bif !g then .rn [.int .i64 (wrap .i64 (b+1)),.int .i64 3,b,.int .i64 0,.int .i64 0,.int .i64 0,.int .i64 0,.int .i64 0,.int .i64 0,.slice none 0 0,i,j,k,l,m,n,.slice v o x] else .ag [y,J,.int .i64 (wrap .i64 (b+1)),z,B,C,D,E,F,.slice L I M,c,p,q,r,s,t,.slice d u e])) (fun a=>.popB a fun g a=>.pi a fun c a=>.pi a fun c a=>.pi a fun c a=>.pi a fun c a=>.pi a fun c a=>.pi a fun c a=>.popS a fun d c e a=>.unNil a (.rn [y,J,b,z,B,C,D,E,F,.slice L I M,i,j,k,l,m,n,.slice v o x])) fun d0 e0=>.fail else .bk [y,J,b,z,B,C,D,E,F,.slice L I M,i,j,k,l,m,n,.slice v o x])) (fun a=>.pi a fun y a=>.pi a fun J a=>.pi a fun b a=>.pi a fun z a=>.pi a fun B a=>.pi a fun C a=>.pi a fun D a=>.pi a fun E a=>.pi a fun F a=>.popS a fun d I e a=>.pi a fun i a=>.pi a fun j a=>.pi a fun k a=>.pi a fun l a=>.pi a fun m a=>.pi a fun n a=>.popS a fun d o e a=>.unNil a (bif (↑c:Int)==0 then .rt (.tuple #[.agg #[.int .i64 0,.int .i64 0,.int .i64 0,.int .i64 0,.int .i64 0,.int .i64 0,.slice none 0 0],.int .i64 0,.int .i64 3]) else .cI 67 #[.agg #[i,j,k,l,m,n,.slice d o e]] fun c=>bif c != 0 then .rt (.tuple #[.agg #[.int .i64 0,.int .i64 0,.int .i64 0,.int .i64 0,.int .i64 0,.int .i64 0,.slice none 0 0],.int .i64 0,c]) else .rt (.tuple #[.agg #[i,j,k,l,m,n,.slice d o e],.int .i64 0,.int .i64 0]))) (fun a=>.pi a fun c a=>.pi a fun y a=>.pi a fun J a=>.pi a fun b a=>.pi a fun z a=>.pi a fun B a=>.pi a fun C a=>.pi a fun D a=>.pi a fun E a=>.popS a fun d F e a=>.pi a fun I a=>.pi a fun i a=>.pi a fun j a=>.pi a fun k a=>.pi a fun l a=>.pi a fun m a=>.popS a fun L n M a=>.unNil a (.rt (.tuple #[.agg #[b,z,B,C,D,E,.slice d F e],c,y]))) fun d0 e0=>.fail):=fk [2,5,8] [⟨0,[(3,.int .i64),(4,.int .i64),(7,.int .i64),(12288,.int .i64),(12289,.int .i64),(12290,.int .i64),(12291,.int .i64),(12292,.int .i64),(12293,.int .i64),(12294,.slice),(24576,.int .i64),(24577,.int .i64),(24578,.int .i64),(24579,.int .i64),(24580,.int .i64),(24581,.int .i64),(24582,.slice)],[],[],[],[]⟩] [{ id:=9,slots:=[(9,.bool),(36864,.int .i64),(36865,.int .i64),(36866,.int .i64),(36867,.int .i64),(36868,.int .i64),(36869,.int .i64),(36870,.slice)],ro:=[2,5],outs:=[],pps:=[8] }] Tryz.f19
theorem w3713:FX X 20 #[.agg #[a,b,c,d,e,f,.slice B n o],.agg #[g,i,j,k,l,m,.slice C p q]] h A (.blk (bif a != g then .rn [false] else bif b != i then .rn [false] else bif c != j then .rn [false] else bif d != k then .rn [false] else bif e != l then .rn [false] else bif f != m then .rn [false] else bif (↑n:Int) != (↑p:Int) then .rn [false] else .ag [false]) (fun s=>.popB s fun D s=>.unNil s (.loop [D,.int .i64 0] (fun s=>.popB s fun D s=>.pi s fun r s=>.unNil s (bif decide (r<(↑n:Int)) then .blk (.need (0<=r/\r<(↑n:Int)) (.someA B fun u=>.li ((u.add (r.toNat*5)).add 0) fun G=>.li ((u.add (r.toNat*5)).add 1) fun H=>.li ((u.add (r.toNat*5)).add 2) fun I=>.loadS ((u.add (r.toNat*5)).add 3) fun M J E=>.li ((u.add (r.toNat*5)).add 4) fun K=>.need (0<=r/\r<(↑p:Int)) (.someA C fun t=>.li ((t.add (r.toNat*5)).add 0) fun w=>.li ((t.add (r.toNat*5)).add 1) fun x=>.li ((t.add (r.toNat*5)).add 2) fun y=>.loadS ((t.add (r.toNat*5)).add 3) fun L z F=>.li ((t.add (r.toNat*5)).add 4) fun v=>.both (.li ((t.add (r.toNat*5)).add 0) fun Z=>.li ((t.add (r.toNat*5)).add 1) fun a0=>.li ((t.add (r.toNat*5)).add 2) fun b0=>.loadS ((t.add (r.toNat*5)).add 3) fun b1 c0 S=>.li ((t.add (r.toNat*5)).add 4) fun d0=>.ne (.agg #[Z,a0,b0,.slice b1 c0 S,d0]) (.agg #[w,x,y,.slice L z F,v]) (.need (0<=r/\r<(↑p:Int)) (.someA C fun O=>.ne (.pointer (some (O.add (r.toNat*5)))) (.pointer (some (t.add (r.toNat*5)))) (.nds [r,.S C p q,.pp 3 6] (.li ((u.add (r.toNat*5)).add 0) fun e0=>.li ((u.add (r.toNat*5)).add 1) fun f0=>.li ((u.add (r.toNat*5)).add 2) fun g0=>.loadS ((u.add (r.toNat*5)).add 3) fun c1 i0 U=>.li ((u.add (r.toNat*5)).add 4) fun j0=>.ne (.agg #[e0,f0,g0,.slice c1 i0 U,j0]) (.agg #[G,H,I,.slice M J E,K]) (.need (0<=r/\r<(↑n:Int)) (.someA B fun Q=>.ne (.pointer (some (Q.add (r.toNat*5)))) (.pointer (some (u.add (r.toNat*5)))) (.nds [r,.S B n o,.pp 2 6] (.li ((t.add (r.toNat*5)).add 0) fun k0=>.li ((t.add (r.toNat*5)).add 1) fun l0=>.li ((t.add (r.toNat*5)).add 2) fun m0=>.loadS ((t.add (r.toNat*5)).add 3) fun d1 o0 V=>.li ((t.add (r.toNat*5)).add 4) fun p0=>.ne (.agg #[k0,l0,m0,.slice d1 o0 V,p0]) (.agg #[w,x,y,.slice L z F,v]) (.need (0<=r/\r<(↑p:Int)) (.someA C fun R=>.ne (.pointer (some (R.add (r.toNat*5)))) (.pointer (some (t.add (r.toNat*5)))) (.nds [r,.S C p q,.pp 3 6] (.li ((u.add (r.toNat*5)).add 0) fun q0=>.li ((u.add (r.toNat*5)).add 1) fun r0=>.li ((u.add (r.toNat*5)).add 2) fun s0=>.loadS ((u.add (r.toNat*5)).add 3) fun e1 t0 W=>.li ((u.add (r.toNat*5)).add 4) fun u0=>.ne (.agg #[q0,r0,s0,.slice e1 t0 W,u0]) (.agg #[G,H,I,.slice M J E,K]) (.need (0<=r/\r<(↑n:Int)) (.someA B fun N=>.ne (.pointer (some (N.add (r.toNat*5)))) (.pointer (some (u.add (r.toNat*5)))) (.nds [r,.S B n o,.pp 2 6] (.li ((t.add (r.toNat*5)).add 0) fun v0=>.li ((t.add (r.toNat*5)).add 1) fun x0=>.li ((t.add (r.toNat*5)).add 2) fun y0=>.loadS ((t.add (r.toNat*5)).add 3) fun f1 z0 Y=>.li ((t.add (r.toNat*5)).add 4) fun a1=>.ne (.agg #[v0,x0,y0,.slice f1 z0 Y,a1]) (.agg #[w,x,y,.slice L z F,v]) (.need (0<=r/\r<(↑p:Int)) (.someA C fun u=>.ne (.pointer (some (u.add (r.toNat*5)))) (.pointer (some (t.add (r.toNat*5)))) (.nds [r,.S C p q,.pp 3 6] (.ag [G,H,I,.slice M J E,K,w,x,y,.slice L z F,v]))))))))))))))))))))) (.li ((t.add (r.toNat*5)).add 0) fun Z=>.li ((t.add (r.toNat*5)).add 1) fun a0=>.li ((t.add (r.toNat*5)).add 2) fun b0=>.loadS ((t.add (r.toNat*5)).add 3) fun b1 c0 S=>.li ((t.add (r.toNat*5)).add 4) fun d0=>.ne (.agg #[Z,a0,b0,.slice b1 c0 S,d0]) (.agg #[w,x,y,.slice L z F,v]) (.need (0<=r/\r<(↑p:Int)) (.someA C fun O=>.ne (.pointer (some (O.add (r.toNat*5)))) (.pointer (some (t.add (r.toNat*5)))) (.nds [r,.S C p q,.pp 3 6] (.li ((u.add (r.toNat*5)).add 0) fun e0=>.li ((u.add (r.toNat*5)).add 1) fun f0=>.li ((u.add (r.toNat*5)).add 2) fun g0=>.loadS ((u.add (r.toNat*5)).add 3) fun c1 i0 U=>.li ((u.add (r.toNat*5)).add 4) fun j0=>.ne (.agg #[e0,f0,g0,.slice c1 i0 U,j0]) (.agg #[G,H,I,.slice M J E,K]) (.need (0<=r/\r<(↑n:Int)) (.someA B fun Q=>.ne (.pointer (some (Q.add (r.toNat*5)))) (.pointer (some (u.add (r.toNat*5)))) (.nds [r,.S B n o,.pp 2 6] (.li ((t.add (r.toNat*5)).add 0) fun k0=>.li ((t.add (r.toNat*5)).add 1) fun l0=>.li ((t.add (r.toNat*5)).add 2) fun m0=>.loadS ((t.add (r.toNat*5)).add 3) fun d1 o0 V=>.li ((t.add (r.toNat*5)).add 4) fun p0=>.ne (.agg #[k0,l0,m0,.slice d1 o0 V,p0]) (.agg #[w,x,y,.slice L z F,v]) (.need (0<=r/\r<(↑p:Int)) (.someA C fun R=>.ne (.pointer (some (R.add (r.toNat*5)))) (.pointer (some (t.add (r.toNat*5)))) (.nds [r,.S C p q,.pp 3 6] (.li ((u.add (r.toNat*5)).add 0) fun q0=>.li ((u.add (r.toNat*5)).add 1) fun r0=>.li ((u.add (r.toNat*5)).add 2) fun s0=>.loadS ((u.add (r.toNat*5)).add 3) fun e1 t0 W=>.li ((u.add (r.toNat*5)).add 4) fun u0=>.ne (.agg #[q0,r0,s0,.slice e1 t0 W,u0]) (.agg #[G,H,I,.slice M J E,K]) (.need (0<=r/\r<(↑n:Int)) (.someA B fun N=>.ne (.pointer (some (N.add (r.toNat*5)))) (.pointer (some (u.add (r.toNat*5)))) (.nds [r,.S B n o,.pp 2 6] (.li ((t.add (r.toNat*5)).add 0) fun v0=>.li ((t.add (r.toNat*5)).add 1) fun x0=>.li ((t.add (r.toNat*5)).add 2) fun y0=>.loadS ((t.add (r.toNat*5)).add 3) fun f1 z0 Y=>.li ((t.add (r.toNat*5)).add 4) fun a1=>.ne (.agg #[v0,x0,y0,.slice f1 z0 Y,a1]) (.agg #[w,x,y,.slice L z F,v]) (.need (0<=r/\r<(↑p:Int)) (.someA C fun u=>.ne (.pointer (some (u.add (r.toNat*5)))) (.pointer (some (t.add (r.toNat*5)))) (.nds [r,.S C p q,.pp 3 6] (.ag [G,H,I,.slice M J E,K,w,x,y,.slice L z F,v])))))))))))))))))))))))) (fun s=>.pi s fun G s=>.pi s fun H s=>.pi s fun I s=>.popS s fun u J E s=>.pi s fun K s=>.pi s fun w s=>.pi s fun x s=>.pi s fun y s=>.popS s fun t z F s=>.pi s fun v s=>.unNil s (bif G != w then .rn [false,r] else bif H != x then .rn [false,r] else bif I != y then .rn [false,r] else bif K != v then .rn [false,r] else .cB 30 #[.slice u J E,.slice t z F] fun j1=>bif !j1 then .rn [false,r] else .ag [D,.int .i64 (wrap .i64 (r+1))])) (fun s=>.pi s fun G s=>.pi s fun H s=>.pi s fun I s=>.popS s fun u J E s=>.pi s fun K s=>.pi s fun w s=>.pi s fun x s=>.pi s fun y s=>.popS s fun u z E s=>.pi s fun v s=>.unNil s (.rn [D,r])) fun g1 i1=>.fail else .bk [D,r])) (fun s=>.popB s fun D s=>.pi s fun r s=>.unNil s (.rt (.bool true))) (fun s=>.popB s fun D s=>.pi s fun r s=>.unNil s (.rt (.bool D))) fun g1 i1=>.fail)) (fun s=>.popB s fun D s=>.unNil s (.rt (.bool D))) fun g1 i1=>.fail):=fk [2,3,6,7] [⟨0,[(4,.bool),(5,.int .i64)],[2,3],[],[],[]⟩] [{ id:=7,slots:=[(28672,.int .i64),(28673,.int .i64),(28674,.int .i64),(28675,.slice),(28676,.int .i64),(32768,.int .i64),(32769,.int .i64),(32770,.int .i64),(32771,.slice),(32772,.int .i64)],ro:=[2,3],outs:=[],pps:=[6,7] },⟨3,[(4,.bool)],[2,3],[],[],[]⟩] Tryz.f20
theorem w3737{k:ByteArray}:FX X 70 #[.pointer B,.string k] h A (.someA B fun c=>.li (c.add 7) fun b=>.someA B fun c=>.store ((c.add 7).add 0) (.int .i64 (wrap .i64 (b+1))) (.cT 95 #[.string k,.string { data:=#[58] }] fun d a=>.unStr d fun k=>.unCons a fun d a=>.unStr d fun m0=>.unCons a fun d a=>.unB d fun e=>.unNil a (.new 9 #[.string { data:=#[] }] fun E=>.store (Addr.add ⟨E,0,none⟩ 0) (.string k) (.cT 96 #[.string m0,.string { data:=#[59] }] fun d a=>.unStr d fun k=>.unCons a fun d a=>.unB d fun g=>.unNil a (.blk (bif e then bif g then .loadStr ⟨E,0,none⟩ fun k=>.someA B fun c=>.li (c.add 7) fun b=>.sem false (Sem.bind (eqGuard BinOp.eql 9 (Operand.tmp 42) (Operand.const (.string { data:=#[116,114,101,97,116,121] })) (.string k) (.string { data:=#[116,114,101,97,116,121] })) fun V=>binOp BinOp.eql 9 (.string k) (.string { data:=#[116,114,101,97,116,121] })) fun d=>.unB d fun q=>.nb (b==1) (.li (c.add 7) fun D=>.ne D b (.nO (c.add 7) (.someA B fun w=>.nq w c (.nds [.val (.pointer B),g,g] (.nf e true (.nds [e,.val (.pointer B)] (.cl 126 #[.pointer B,.bool (q==(b==1))] fun d=>.unTup d fun i=>.unNil i (.nds [.B (q==(b==1)),.B (b==1)] (.li (c.add 7) fun r=>.ne r b (.nO (c.add 7) (.someA B fun o=>.nq o c (.nds [.val (.pointer B),g,g] (.nf e true (.nd e (.ag []))))))))))))))) else .both (.nds [.U,.U,.U,.U,g,g] (.nf e true (.nds [e,.val (.pointer B),.U,.U,.U,g,g] (.nf e true (.nds [e,.val (.pointer B),.U,.U,.U,g,g] (.nf e true (.nds [e,.val (.pointer B)] (.cl 126 #[.pointer B,false] fun d=>.unTup d fun i=>.unNil i (.nds [.U,.U,.U,g,g] (.nf e true (.nd e (.ag [])))))))))))) (.nds [.U,.U,.U,.U,g,g] (.nf e true (.nds [e,.val (.pointer B),.U,.U,.U,g,g] (.nf e true (.nds [e,.val (.pointer B),.U,.U,.U,g,g] (.nf e true (.nds [e,.val (.pointer B)] (.cl 126 #[.pointer B,false] fun d=>.unTup d fun i=>.unNil i (.nds [.U,.U,.U,g,g] (.nf e true (.nd e (.ag [])))))))))))) else .both (.nds [.U,.U,.U,.U,false,.U] (.nf e false (.nds [e,.val (.pointer B),.U,.U,.U,false,.U] (.nf e false (.nds [e,.val (.pointer B),.U,.U,.U,false,.U] (.nf e false (.nds [e,.val (.pointer B)] (.cl 126 #[.pointer B,false] fun d=>.unTup d fun i=>.unNil i (.nds [.U,.U,.U,false,.U] (.nf e false (.nd e (.ag [])))))))))))) (.nds [.U,.U,.U,.U,false,.U] (.nf e false (.nds [e,.val (.pointer B),.U,.U,.U,false,.U] (.nf e false (.nds [e,.val (.pointer B),.U,.U,.U,false,.U] (.nf e false (.nds [e,.val (.pointer B)] (.cl 126 #[.pointer B,false] fun d=>.unTup d fun i=>.unNil i (.nds [.U,.U,.U,false,.U] (.nf e false (.nd e (.ag []))))))))))))) (fun a=>.unNil a (.cl 97 #[.string k,.string { data:=#[59] }] fun d=>.unS d fun c b f=>.someA B fun w=>.li (w.add 7) fun D=>bif D==1 then .cl 126 #[.pointer B,.bool ((↑b:Int)==6)] fun d=>.unTup d fun i=>.unNil i (.cl 127 #[.pointer B,.slice c b f] fun d=>.unS d fun c b f=>.need ((0:Int)<=0/\0<(↑b:Int)) (.someA c fun o=>.li (o.add 0) fun r=>.need ((0:Int)<=1/\1<(↑b:Int)) (.someA c fun y=>.li (y.add 1) fun l=>.need ((0:Int)<=2/\2<(↑b:Int)) (.someA c fun z=>.li (z.add 2) fun t=>.need ((0:Int)<=3/\3<(↑b:Int)) (.someA c fun p=>.li (p.add 3) fun j=>.need ((0:Int)<=4/\4<(↑b:Int)) (.someA c fun C=>.li (C.add 4) fun R=>.need ((0:Int)<=5/\5<(↑b:Int)) (.someA c fun c=>.li (c.add 5) fun b=>.someA B fun c=>.store ((c.add 0).add 0) (.int .i64 r) (.store ((c.add 0).add 1) (.int .i64 l) (.store ((c.add 0).add 2) (.int .i64 t) (.store ((c.add 0).add 3) (.int .i64 j) (.store ((c.add 0).add 4) (.int .i64 R) (.store ((c.add 0).add 5) (.int .i64 b) (.store ((c.add 0).add 6) (.slice none 0 0) (.someA B fun s=>.nq s c (.rt (.tuple #[])))))))))))))))) else .sem false (Instr.sliceAt 137 (.pointer (some { block:=1,off:=0 })) none none none) fun F=>.unS F fun o r a0=>.cI 128 #[.slice o r a0,.func (Fn.func 129) #[] #[.pointer (some ⟨E,0,none⟩)]] fun l=>.cl 126 #[.pointer B,.bool (decide (l>=0))] fun d=>.unTup d fun i=>.unNil i (.need (0<=l/\l<(↑7:Int)) (.loadB (((Addr.add { block:=1,off:=0 } (l.toNat*4)).add 1).add 0) fun e=>.loadB (((Addr.add { block:=1,off:=0 } (l.toNat*4)).add 1).add 1) fun q=>.sem false (Instr.buildSlice 122 2 #[(0,.bool e),(1,.bool q)]) fun d=>.unS d fun y t o0=>.loop [.int .i64 2,.int .i64 0] (fun a=>.pi a fun b a=>.pi a fun j a=>.unNil a (bif decide (j<(↑t:Int)) then .need (0<=j/\j<(↑t:Int)) (.someA y fun c=>.loadB (c.add (j.toNat*1)) fun e=>bif e then .ag [.int .i64 (wrap .i64 (b+1)),.int .i64 (wrap .i64 (j+1))] else .ag [b,.int .i64 (wrap .i64 (j+1))]) else .bk [b,j])) (fun a=>.pi a fun j a=>.pi a fun R a=>.unNil a (.cl 126 #[.pointer B,.bool ((↑b:Int)==j)] fun d=>.unTup d fun i=>.unNil i (.sem false (Instr.sliceAt 81 (.slice c b f) none (some (.int .i64 (wrap .i64 (j-1)))) none) fun F=>.unS F fun z k0 f=>.cl 127 #[.pointer B,.slice z k0 f] fun d=>.unS d fun p n f=>.need ((0:Int)<=0/\0<(↑n:Int)) (.someA p fun C=>.li (C.add 0) fun S=>.blk (bif e then .need ((0:Int)<=1/\1<(↑n:Int)) (.someA p fun c=>.li (c.add 1) fun b=>.ag [l,S,b,.slice none 0 0,.int .i64 0]) else .ag [l,S,.int .i64 0,.slice none 0 0,.int .i64 0]) (fun a=>.pi a fun H a=>.pi a fun I a=>.pi a fun J a=>.popS a fun s K f a=>.pi a fun c0 a=>.unNil a (.blk (bif q then .need (0<=wrap .i64 ((↑n:Int)-1)/\wrap .i64 ((↑n:Int)-1)<(↑n:Int)) (.someA p fun c=>.li (c.add ((wrap .i64 ((↑n:Int)-1)).toNat*1)) fun b=>.ag [H,I,J,.slice s K f,b]) else .ag [H,I,J,.slice s K f,c0]) (fun a=>.pi a fun L a=>.pi a fun M a=>.pi a fun N a=>.popS a fun Z d0 f a=>.pi a fun O a=>.unNil a (.blk (.need (0<=wrap .i64 (j-1)/\wrap .i64 (j-1)<(↑b:Int)) (.someA c fun c=>.loadStr (c.add ((wrap .i64 (j-1)).toNat*1)) fun k=>.sem false (Sem.bind (eqGuard BinOp.neq 9 (Operand.tmp 151) (Operand.const (.string { data:=#[] })) (.string k) (.string { data:=#[] })) fun V=>binOp BinOp.neq 9 (.string k) (.string { data:=#[] })) fun d=>.unB d fun e=>bif e then .cl 97 #[.string k,.string { data:=#[44] }] fun d=>.unS d fun c b f=>.cl 127 #[.pointer B,.slice c b f] fun d=>.unS d fun c b f=>.ag [L,M,N,.slice c b f,O] else .ag [L,M,N,.slice Z d0 f,O])) (fun a=>.pi a fun b a=>.pi a fun e0 a=>.pi a fun f0 a=>.popS a fun c g0 f a=>.pi a fun i0 a=>.unNil a (.someA B fun m=>.loadS ((m.add 0).add 6) fun U Q G=>.sem false (Instr.buildSlice 36 1 #[(0,.agg #[b,e0,f0,.slice c g0 f,i0])]) fun d=>.unS d fun c b f=>.loadS ((m.add 0).add 6) fun l0 j0 b0=>.ne (.slice l0 j0 b0) (.slice U Q G) (.nds [.O ((m.add 0).add 6),.O (m.add 0)] (.someA B fun W=>.nq W m (.nds [.val (.pointer B),.val (.pointer B)] (.sem false (Builtin.append_ #[36,36] 36 #[.slice U Q G,.slice c b f]) fun d=>.unS d fun c b f=>.nds [.O ((m.add 0).add 6),.O (m.add 0)] (.someA B fun Y=>.nq Y m (.nds [.val (.pointer B),.val (.pointer B)] (.someA B fun x=>.store (((x.add 0).add 6).add 0) (.slice c b f) (.nO (x.add 0) (.someA B fun c=>.nq c x (.rt (.tuple #[]))))))))))))) (fun a=>.pi a fun b a=>.pi a fun b a=>.pi a fun b a=>.popS a fun c b f a=>.pi a fun b a=>.unNil a (.rt (.tuple #[]))) fun u v=>.fail)) (fun a=>.pi a fun b a=>.pi a fun b a=>.pi a fun b a=>.popS a fun c b f a=>.pi a fun b a=>.unNil a (.rt (.tuple #[]))) fun u v=>.fail)) (fun a=>.pi a fun b a=>.pi a fun b a=>.pi a fun b a=>.popS a fun c b f a=>.pi a fun b a=>.unNil a (.rt (.tuple #[]))) fun u v=>.fail)))) (fun a=>.pi a fun b a=>.pi a fun b a=>.unNil a (.rt (.tuple #[]))) fun u v=>.fail)))) (fun a=>.unNil a (.rt (.tuple #[]))) fun u v=>.fail))))):=fk [11,16] [⟨0,[(12,.int .i64),(106,.int .i64)],[11],[],[],[]⟩] [⟨29,[(69632,.int .i64),(69633,.int .i64),(69634,.int .i64),(69635,.slice),(69636,.int .i64)],[11],[],[],[]⟩,⟨26,[(69632,.int .i64),(69633,.int .i64),(69634,.int .i64),(69635,.slice),(69636,.int .i64)],[11],[],[],[]⟩,⟨24,[(69632,.int .i64),(69633,.int .i64),(69634,.int .i64),(69635,.slice),(69636,.int .i64)],[11],[],[],[]⟩,⟨4,[],[],[],[],[]⟩] Tryz.f70
theorem w3738{M:ByteArray}{D:Bool}:FX X 71 #[.agg #[a,b,c,d,e,f,.slice B n o],.string M,D] h A (.cT 52 #[.string M] fun i g=>.unStr i fun K=>.unCons g fun i g=>.unS i fun k j l=>.unCons g fun i g=>.unB i fun m=>.unNil g (.blk (bif !m then .rn [false,a,b,c,d,e,f,.slice B n o] else .sem false (Sem.bind (eqGuard BinOp.eql 9 (Operand.tmp 25) (Operand.const (.string { data:=#[116,114,101,97,116,121] })) (.string K) (.string { data:=#[116,114,101,97,116,121] })) fun l0=>binOp BinOp.eql 9 (.string K) (.string { data:=#[116,114,101,97,116,121] })) fun i=>.unB i fun m=>bif !m==D then .rn [false,a,b,c,d,e,f,.slice B n o] else .ag [false,.int .i64 0,.int .i64 0,.int .i64 0,.int .i64 0,.int .i64 0,.int .i64 0,.slice none 0 0]) (fun g=>.popB g fun m g=>.pi g fun E g=>.pi g fun F g=>.pi g fun G g=>.pi g fun H g=>.pi g fun I g=>.pi g fun J g=>.popS g fun N c0 U g=>.unNil g (bif D then .cT 107 #[.slice k j l] fun i g=>.unS i fun k j l=>.unCons g fun i g=>.unB i fun S=>.unNil g (.blk (bif !S then .rn [false,a,b,c,d,e,f,.slice B n o] else bif (↑j:Int) != 6 then .rn [false,a,b,c,d,e,f,.slice B n o] else .ag [m,E,F,G,H,I,J,.slice N c0 U]) (fun g=>.popB g fun m g=>.pi g fun C g=>.pi g fun y g=>.pi g fun p g=>.pi g fun q g=>.pi g fun r g=>.pi g fun s g=>.popS g fun L x l g=>.unNil g (.need ((0:Int)<=0/\0<(↑j:Int)) (.someA k fun v=>.li (v.add 0) fun u=>.need ((0:Int)<=1/\1<(↑j:Int)) (.someA k fun t=>.li (t.add 1) fun Y=>.need ((0:Int)<=2/\2<(↑j:Int)) (.someA k fun O=>.li (O.add 2) fun Z=>.need ((0:Int)<=3/\3<(↑j:Int)) (.someA k fun Q=>.li (Q.add 3) fun a0=>.need ((0:Int)<=4/\4<(↑j:Int)) (.someA k fun R=>.li (R.add 4) fun b0=>.need ((0:Int)<=5/\5<(↑j:Int)) (.someA k fun k=>.li (k.add 5) fun j=>.rt (.tuple #[.agg #[u,Y,Z,a0,b0,j,.slice none 0 0],true]))))))))) (fun g=>.popB g fun m g=>.pi g fun j g=>.pi g fun C g=>.pi g fun y g=>.pi g fun p g=>.pi g fun q g=>.pi g fun r g=>.popS g fun k s l g=>.unNil g (.rt (.tuple #[.agg #[j,C,y,p,q,r,.slice k s l],m]))) fun j0 k0=>.fail) else .cl 68 #[] fun i=>.unS i fun L C V=>.cI 53 #[.slice L C V,.string K] fun y=>bif decide (y<0) then .rt (.tuple #[.agg #[a,b,c,d,e,f,.slice B n o],false]) else .cT 130 #[y,.slice k j l] fun i g=>.unAgg i fun W=>.pi W fun j d0=>.pi d0 fun p e0=>.pi e0 fun q f0=>.popS f0 fun k r l g0=>.pi g0 fun s i0=>.unNil i0 (.unCons g fun i g=>.unB i fun m=>.unNil g (.both (.sem false (Instr.buildSlice 36 0 #[]) fun i=>.unS i fun v x z=>.nds [.val (.agg #[j,p,q,.slice k r l,s]),.S B n o,.pp 3 6] (.both (.sem false (Builtin.append_ #[36,36] 36 #[.slice v x z,.slice B n o]) fun i=>.unS i fun t u w=>.nds [.val (.agg #[j,p,q,.slice k r l,s]),.pp 3 6] (.sem false (Instr.buildSlice 36 1 #[(0,.agg #[j,p,q,.slice k r l,s])]) fun i=>.unS i fun k j l=>.np 3 6 (.sem false (Builtin.append_ #[36,36] 36 #[.slice t u w,.slice k j l]) fun i=>.unS i fun k j l=>.np 3 6 (.rt (.tuple #[.agg #[a,b,c,d,e,f,.slice k j l],m]))))) (.sem false (Instr.buildSlice 36 1 #[(0,.agg #[j,p,q,.slice k r l,s])]) fun i=>.unS i fun k j l=>.nds [.S B n o,.pp 3 6] (.sem false (Builtin.append_ #[36,36] 36 #[.slice v x z,.slice B n o]) fun i=>.unS i fun t u w=>.np 3 6 (.sem false (Builtin.append_ #[36,36] 36 #[.slice t u w,.slice k j l]) fun i=>.unS i fun k j l=>.np 3 6 (.rt (.tuple #[.agg #[a,b,c,d,e,f,.slice k j l],m]))))))) (.sem false (Instr.buildSlice 36 1 #[(0,.agg #[j,p,q,.slice k r l,s])]) fun i=>.unS i fun k j l=>.nds [.S B n o,.pp 3 6] (.sem false (Instr.buildSlice 36 0 #[]) fun i=>.unS i fun v x z=>.nds [.S B n o,.pp 3 6] (.sem false (Builtin.append_ #[36,36] 36 #[.slice v x z,.slice B n o]) fun i=>.unS i fun t u w=>.np 3 6 (.sem false (Builtin.append_ #[36,36] 36 #[.slice t u w,.slice k j l]) fun i=>.unS i fun k j l=>.np 3 6 (.rt (.tuple #[.agg #[a,b,c,d,e,f,.slice k j l],m])))))))))) (fun g=>.popB g fun m g=>.pi g fun j g=>.pi g fun E g=>.pi g fun F g=>.pi g fun G g=>.pi g fun H g=>.pi g fun I g=>.popS g fun k J l g=>.unNil g (.rt (.tuple #[.agg #[j,E,F,G,H,I,.slice k J l],m]))) fun j0 k0=>.fail)):=fk [3,6,14] [] [⟨8,[(7,.bool),(28672,.int .i64),(28673,.int .i64),(28674,.int .i64),(28675,.int .i64),(28676,.int .i64),(28677,.int .i64),(28678,.slice)],[3],[],[],[]⟩,⟨4,[(7,.bool),(28672,.int .i64),(28673,.int .i64),(28674,.int .i64),(28675,.int .i64),(28676,.int .i64),(28677,.int .i64),(28678,.slice)],[3],[],[],[]⟩] Tryz.f71
theorem w3760{a:Bool}:FX X 126 #[.pointer B,a] h A (bif !a then .someA B fun b=>.li (b.add 7) fun c=>.fail else .rt (.tuple #[])):=fk [] [] [] Tryz.f126
theorem w3761:FX X 127 #[.pointer B,.slice C n o] h A (.loop [.slice none 0 0,.int .i64 0] (fun b=>.popS b fun d c e b=>.pi b fun f b=>.unNil b (bif decide (f<(↑n:Int)) then .need (0<=f/\f<(↑n:Int)) (.someA C fun t=>.loadStr (t.add (f.toNat*1)) fun g=>.sem false (Builtin.len_ #[9] 3 #[.string g]) fun a=>.ui a fun u=>.cB 121 #[u,.int .i64 1,.int .i64 9] fun m=>bif m then .cl 155 #[.string g,.string { data:=#[48,49,50,51,52,53,54,55,56,57] }] fun a=>.unStr a fun r=>.sem false (Sem.bind (eqGuard BinOp.eql 9 (Operand.tmp 22) (Operand.const (.string { data:=#[] })) (.string r) (.string { data:=#[] })) fun s=>binOp BinOp.eql 9 (.string r) (.string { data:=#[] })) fun a=>.unB a fun m=>bif m then .sem false (Instr.index 9 (.string g) (.int .i64 0)) fun a=>.unI .u8 a fun p=>bif p != 48 then .cl 126 #[.pointer B,true] fun a=>.unTup a fun k=>.unNil k (.cT 156 #[.string g] fun a b=>.ui a fun l=>.unCons b fun a b=>.unNil b (.sem false (Instr.buildSlice 47 1 #[(0,.int .i64 l)]) fun a=>.unS a fun i q j=>.sem false (Builtin.append_ #[47,47] 47 #[.slice d c e,.slice i q j]) fun a=>.unS a fun d c e=>.ag [.slice d c e,.int .i64 (wrap .i64 (f+1))])) else .sem false (Sem.bind (eqGuard BinOp.eql 9 (Operand.tmp 30) (Operand.const (.string { data:=#[48] })) (.string g) (.string { data:=#[48] })) fun s=>binOp BinOp.eql 9 (.string g) (.string { data:=#[48] })) fun a=>.unB a fun m=>.cl 126 #[.pointer B,m] fun a=>.unTup a fun k=>.unNil k (.cT 156 #[.string g] fun a b=>.ui a fun l=>.unCons b fun a b=>.unNil b (.sem false (Instr.buildSlice 47 1 #[(0,.int .i64 l)]) fun a=>.unS a fun i q j=>.sem false (Builtin.append_ #[47,47] 47 #[.slice d c e,.slice i q j]) fun a=>.unS a fun d c e=>.ag [.slice d c e,.int .i64 (wrap .i64 (f+1))])) else .cl 126 #[.pointer B,false] fun a=>.unTup a fun k=>.unNil k (.cT 156 #[.string g] fun a b=>.ui a fun p=>.unCons b fun a b=>.unNil b (.sem false (Instr.buildSlice 47 1 #[(0,.int .i64 p)]) fun a=>.unS a fun i l j=>.sem false (Builtin.append_ #[47,47] 47 #[.slice d c e,.slice i l j]) fun a=>.unS a fun d c e=>.ag [.slice d c e,.int .i64 (wrap .i64 (f+1))])) else .cl 126 #[.pointer B,false] fun a=>.unTup a fun k=>.unNil k (.cT 156 #[.string g] fun a b=>.ui a fun p=>.unCons b fun a b=>.unNil b (.sem false (Instr.buildSlice 47 1 #[(0,.int .i64 p)]) fun a=>.unS a fun i l j=>.sem false (Builtin.append_ #[47,47] 47 #[.slice d c e,.slice i l j]) fun a=>.unS a fun d c e=>.ag [.slice d c e,.int .i64 (wrap .i64 (f+1))]))) else .bk [.slice d c e,f])) (fun b=>.popS b fun d c e b=>.pi b fun f b=>.unNil b (.rt (.slice d c e))) (fun b=>.popS b fun d c e b=>.pi b fun c b=>.unNil b (.rt (.slice none 0 0))) fun v w=>.fail):=fk [] [⟨0,[(5,.slice),(12,.int .i64)],[],[],[],[]⟩] [] Tryz.f127
theorem w3762{g:Value}:FX X 128 #[.slice B n o,g] h A (.loop [.int .i64 0,.int .i64 0] (fun a=>.pi a fun c a=>.pi a fun b a=>.unNil a (bif decide (b<(↑n:Int)) then .need (0<=b/\b<(↑n:Int)) (.someA B fun d=>.loadStr ((d.add (b.toNat*4)).add 0) fun j=>.loadB ((d.add (b.toNat*4)).add 1) fun e=>.loadB ((d.add (b.toNat*4)).add 2) fun i=>.loadV ((d.add (b.toNat*4)).add 3) fun f=>.callv false g #[.agg #[.string j,e,i,f]] fun f=>.unB f fun e=>bif e then .rn [b,b] else .ag [c,.int .i64 (wrap .i64 (b+1))]) else .bk [c,b])) (fun a=>.pi a fun c a=>.pi a fun c a=>.unNil a (.rt (.int .i64 (-1)))) (fun a=>.pi a fun c a=>.pi a fun b a=>.unNil a (.rt (.int .i64 c))) fun k l=>.fail):=fk [] [⟨0,[(4,.int .i64),(8,.int .i64)],[],[],[],[]⟩] [] Tryz.f128
theorem w3763{a:ByteArray}{e:Bool}{f:Bool}{g:Value}{c:Addr}:FX X 129 #[.agg #[.string a,e,f,g],.pointer (some c)] h A (.loadStr c fun b=>.sem false (Sem.bind (eqGuard BinOp.eql 9 (Operand.tmp 5) (Operand.tmp 6) (.string a) (.string b)) fun j=>binOp BinOp.eql 9 (.string a) (.string b)) fun i=>.unB i fun d=>.rt (.bool d)):=fk [2] [] [] Tryz.f129
theorem w3764:FX X 130 #[a,.slice B n o] h A (.blk (bif a==6 then .ag [.int .i64 4] else .ag [.int .i64 3]) (fun b=>.pi b fun d b=>.unNil b (bif (↑n:Int) != d then .rt (.tuple #[.agg #[.int .i64 0,.int .i64 0,.int .i64 0,.slice none 0 0,.int .i64 0],false]) else .sem false (Instr.sliceAt 81 (.slice B n o) none (some (.int .i64 (wrap .i64 (d-1)))) none) fun I=>.unS I fun c F g=>.cT 107 #[.slice c F g] fun e b=>.unS e fun c f g=>.unCons b fun e b=>.unB e fun j=>.unNil b (.need (0<=wrap .i64 (d-1)/\wrap .i64 (d-1)<(↑n:Int)) (.someA B fun v=>.loadStr (v.add ((wrap .i64 (d-1)).toNat*1)) fun H=>.cT 158 #[.string H] fun e b=>.unS e fun w d E=>.unCons b fun e b=>.unB e fun C=>.unNil b (.cT 107 #[.slice w d E] fun e b=>.unS e fun k d m=>.unCons b fun e b=>.unB e fun D=>.unNil b (.blk (bif !j then .rn [false,.int .i64 0,.int .i64 0,.int .i64 0,.slice none 0 0,.int .i64 0] else bif !C then .rn [false,.int .i64 0,.int .i64 0,.int .i64 0,.slice none 0 0,.int .i64 0] else bif !D then .rn [false,.int .i64 0,.int .i64 0,.int .i64 0,.slice none 0 0,.int .i64 0] else .ag [false,.int .i64 0,.int .i64 0,.int .i64 0,.slice none 0 0,.int .i64 0]) (fun b=>.popB b fun j b=>.pi b fun r b=>.pi b fun s b=>.pi b fun t b=>.popS b fun L u M b=>.pi b fun N b=>.unNil b (.need ((0:Int)<=0/\0<(↑f:Int)) (.someA c fun x=>.li (x.add 0) fun p=>bif a==4 then .need ((0:Int)<=1/\1<(↑f:Int)) (.someA c fun c=>.li (c.add 1) fun i=>.rt (.tuple #[.agg #[a,p,.int .i64 0,.slice k d m,i],true])) else bif a==6 then .need ((0:Int)<=1/\1<(↑f:Int)) (.someA c fun y=>.li (y.add 1) fun i=>.need ((0:Int)<=2/\2<(↑f:Int)) (.someA c fun l=>.li (l.add 2) fun q=>.li (l.add 2) fun G=>.ne G q (.need ((0:Int)<=2/\2<(↑f:Int)) (.someA c fun z=>.ne (.pointer (some (z.add 2))) (.pointer (some (l.add 2))) (.nS c f g (.rt (.tuple #[.agg #[a,p,i,.slice k d m,q],true]))))))) else .need ((0:Int)<=1/\1<(↑f:Int)) (.someA c fun c=>.li (c.add 1) fun i=>.rt (.tuple #[.agg #[a,p,i,.slice k d m,.int .i64 0],true]))))) (fun b=>.popB b fun j b=>.pi b fun d b=>.pi b fun r b=>.pi b fun s b=>.popS b fun c t g b=>.pi b fun u b=>.unNil b (.rt (.tuple #[.agg #[d,r,s,.slice c t g,u],j]))) fun J K=>.fail)))))) (fun b=>.pi b fun d b=>.unNil b (.rt (.tuple #[.agg #[.int .i64 0,.int .i64 0,.int .i64 0,.slice none 0 0,.int .i64 0],false]))) fun J K=>.fail):=fk [4,13] [] [⟨11,[(5,.bool),(20480,.int .i64),(20481,.int .i64),(20482,.int .i64),(20483,.slice),(20484,.int .i64)],[],[],[],[]⟩,⟨4,[(6,.int .i64)],[4],[],[],[]⟩] Tryz.f130
end Go.Y
end
section
namespace Go.Y.Txt
open Go.TM.Tp
def wrongV(n:Int):Value:=.iface 142 (.int .i64 n)
def LineAt(a:Addr)(n:Int)(h:Cells):Prop:=h.cell? (a.add 7)=some (.int .i64 n)
variable {X:XP}{h₀ h:LH}{a:Addr}{n:Int}
theorem LineAt.le{a:Addr}{n:Int}{h h':Cells}(b:h.le h')(e:LineAt a n h):LineAt a n h':=Qo b e
theorem need_no{V:Value->Prop}(px:PX X V h₀)(c:V (wrongV n))(e:h₀.le h)(d:LineAt a n h.get){Q:Value->LH->Prop}:FW X Tryz.prog 126 #[.pointer (some a),.bool false] h Q:=by
 refine fw_panics (C:={ P:=Tryz.prog,priv:=[],loops:=[],joins:=[],kd:=.normal }) (t:=142) (v:=.int .i64 n) px c (f:=126) (fd:=Tryz.f126) (args:=[.pointer (some a),.bool false]) (by kernel_rfl) (by kernel_rfl) rfl rfl rfl rfl (fun _=>rfl) (by kernel_rfl) ?_;have hw:(T.need (Value.bool true=.bool true) (.someA (some a) fun b=>.loadI .i64 (b.add 7) fun m=>.need (Value.iface 142 (.int .i64 m)=.iface 142 (.int .i64 n)) (.mem (fun h=>h₀.le h) (.leaf (.again []))))).wp X Tryz.prog anyQ h :=
  ⟨rfl,a,rfl,n,d,rfl,e,trivial⟩
 refine cast ?_ hw;congr 1
attribute [local irreducible] T.wp CV FWK
structure PN(X:XP)(h₀ h:LH)(V:Value->Prop)(a:Addr)(n:Int):Prop where
 px:PX X V h₀
 same:h₀.le h
 line:LineAt a n h.get
theorem PN.le{X:XP}{h₀ h h':LH}{V:Value->Prop}{a:Addr}{n:Int}(p:PN X h₀ h V a n)(b:h.le h'):PN X h₀ h' V a n:=⟨p.px,LH.le_trans p.same b,p.line.le b.1⟩
theorem c3760{V:Value->Prop}(p:PN X h₀ h V a n)(b:Bool)(hv:b=false->V (wrongV n)):FW X Tryz.prog 126 #[.pointer (some a),.bool b] h fun r h'=>b=true/\r=.tuple #[]/\h'=h:=by
 cases b with
 | false=>exact need_no p.px (hv rfl) p.same p.line
 | true =>
  refine w3760 p.px.ok ?_;refine yF ?_;exact Qh ⟨rfl,rfl,rfl⟩
theorem Kr{Q:Leaf->LH->Prop}{K:Value->T}{V:Value->Prop}(p:PN X h₀ h V a n){b:Bool}(hv:b=false->V (wrongV n))(c:b=true->(K (.tuple #[])).wp X Tryz.prog Q h):(T.call false 126 #[.pointer (some a),.bool b] K).wp X Tryz.prog Q h :=
 Jp (c3760 p b hv) (by rintro _ _ ⟨h1,rfl,rfl⟩;exact c h1)
theorem Ur{l:Bs}(a:numL l≠none):(1<=l.length/\l.length<=9)/\l.all digit=true/\(l.head?=some 48->l.length=1):=by
 unfold numL at a;split at a
 ·assumption
 ·exact absurd rfl a
theorem Y8{l:Bs}{P:Prop}(h1:numL l≠none->P)(h2:¬ P):numL l=none:=by
 cases e:numL l with
 | none=>rfl
 | some n=>exact absurd (h1 (by rw[e];simp)) h2
theorem c3761{V:Value->Prop}{ln:Int}(F:PN X h₀ h V a ln){p:Option Addr}{n c:Nat}{l:List Bs}(s:BsS h p n c l)(hl:l.length<=2^20)(hb:∀ x∈l,x.length<=2^20)(hv:numsL l=none->V (wrongV ln)) :
  FW X Tryz.prog 127 #[.pointer (some a),.slice p n c] h fun r h'=>h.le h'/\∃ m,numsL l=some m/\∃ q k d,r=.slice q k d/\InS h' q k d (ints m)/\NewIn h.get q:=by
 refine w3761 F.px.ok ?_;have C:=s.2.1;refine Jl (fun Q vs h'=>h.le h'/\∃ (q:Option Addr) (m k i:Nat) (acc:List Nat),vs=[.slice q m k,.int .i64 i]/\i<=n/\Q=n-i/\numsL (l.take i)=some acc/\Growing IntEnc 3 1 h.get h'.get q m k (ints acc))
  (fun vs h'=>h.le h'/\∃ (q:Option Addr) (m k:Nat) (i:Int) (acc:List Nat),vs=[.slice q m k,.int .i64 i]/\numsL l=some acc/\Growing IntEnc 3 1 h.get h'.get q m k (ints acc))
  ⟨LH.le_refl _,none,0,0,0,[],rfl,Nat.zero_le _,rfl,rfl,Growing.nil⟩ ?_ ?_
 ·rintro Y Q vs h1 P ⟨o,q,m,k,i,acc,rfl,hi,rfl,f,g⟩;have D:=Z6 f;rw[List.length_take]at D;refine yJ (fun R=>?_) (fun R=>?_)
  ·have N:=List.getElem?_eq_getElem (show i<l.length by omega);have A:=List.getElem_mem (show i<l.length by omega);generalize l[i]=x at N A;obtain⟨b,Z,S⟩:=(s.le o).at N;have W:0<=(i:Int)/\(i:Int)<(n:Int):=by omega
   have U:=hb x A;have bad:numL x=none->V (wrongV ln):=fun h0=>hv (De h0 A);have j:=Uq (l.take i) x;rw[<- J3 N,f]at j;have fin:1<=x.length/\x.length<=9->x.all digit=true->(x.head?=some 48->x.length=1)->numL x=some (valL x):=fun h1 h2 h3=>by unfold numL;rw[if_pos ⟨h1,h2,h3⟩]
   refine gZ ?_;refine Qv (by rw[Int.toNat_natCast];exact S) ?_;refine Q8 undS ?_;refine gZ ?_;refine t_pu (Tre.c2052 _ _ _) ?_;refine yI (fun e=>?_) (fun e=>?_)
   ·have hlen:1<=x.length/\x.length<=9:=by simp[Tr.inB]at e;omega
    have E:x≠[]:=by intro h0;subst h0;simp at hlen
    refine t_gr (d3542 E (by omega)) ?_;rintro _ h2 t rfl;refine Qs ?_;refine Ga (b:=[]) undS ?_;refine yI (fun G=>?_) (fun G=>?_)
    ·have u:x.all digit=true:=trimD_nil.1 (by simpa using G);obtain⟨y,r,v⟩ : ∃ y r,x=y::r:=by
      cases x with
      | nil=>exact absurd rfl E
      | cons y r=>exact⟨y,r,rfl⟩
     have K:x[0]?=some y:=by rw[v];rfl
     refine J8 (i:=0) undS K ?_;refine yI (fun J=>?_) (fun J=>?_)
     ·have I:y≠48:=by rintro rfl;simp at J
      rw[fin hlen u (fun z=>by rw[v]at z;simp at z;exact absurd z I)]at j;refine Kr ((F.le o).le t) (fun e=>by cases e) fun _=>?_;refine gZ ?_;refine t_gr (c3771 u hlen.1 hlen.2) ?_;rintro _ h3 w rfl;refine gZ ?_;refine D8 (valL x:Int) (by unfold ints;rw[List.length_map];omega) (g.le (LH.le_trans t w).1) (LH.le_trans o (LH.le_trans t w)) fun O c' h' B g'=>?_;refine Qj (P (n-(i+1)) _ _ (by omega) ⟨B,O,m+1,c',i+1,acc++[valL x],?_,by omega,rfl,j,?_⟩)
      ·rw[Qm (by omega) (by omega)];rfl
      ·unfold ints at g' ⊢;rw[List.map_append];exact g'
     ·have I:y=48:=UInt8.toNat_inj.1 (by
       have:(y.toNat:Int)=48:=by simpa using J
       show y.toNat=48;omega)
      refine Ga (b:=[48]) undS ?_;refine gZ ?_;refine Kr ((F.le o).le t) (fun H=>?_) fun H=>?_
      ·refine bad (Y8 (fun C=>(Ur C).2.2) fun z=>?_);have h1:=z (by rw[v,I];rfl);rw[v]at h1;have:r=[]:=List.eq_nil_of_length_eq_zero (by simpa using h1);rw[v,I,this]at H;simp at H
      ·have L:x=[48]:=by simpa using H
       rw[fin hlen u (fun _=>by rw[L];rfl)]at j;refine gZ ?_;refine t_gr (c3771 u hlen.1 hlen.2) ?_;rintro _ h3 w rfl;refine gZ ?_;refine D8 (valL x:Int) (by unfold ints;rw[List.length_map];omega) (g.le (LH.le_trans t w).1) (LH.le_trans o (LH.le_trans t w)) fun O c' h' B g'=>?_;refine Qj (P (n-(i+1)) _ _ (by omega) ⟨B,O,m+1,c',i+1,acc++[valL x],?_,by omega,rfl,j,?_⟩)
       ·rw[Qm (by omega) (by omega)];rfl
       ·unfold ints at g' ⊢;rw[List.map_append];exact g'
    ·have M:¬ x.all digit=true:=fun z=>by rw[decide_eq_true (trimD_nil.2 z)]at G;cases G
     exact Kr ((F.le o).le t) (fun _=>bad (Y8 (fun C=>(Ur C).2.1) M)) (fun e=>by cases e)
   ·exact Kr (F.le o) (fun _=>bad (Y8 (fun C=>(Ur C).1) (by intro z;simp[Tr.inB]at e;omega))) (fun e=>by cases e)
  ·rw[List.take_of_length_le (by omega)]at f;exact gH ⟨o,q,m,k,_,acc,rfl,f,g⟩
 ·rintro vs h1 ⟨o,q,m,k,i,acc,rfl,f,g⟩;have D:=Z6 f;refine gZ ?_;refine Qh ⟨o,acc,f,q,m,k,rfl,growI g (by unfold ints;rw[List.length_map];omega),g.new⟩
end Go.Y.Txt
end
section
namespace Go.TM.Tp
theorem findB_of:∀ {L:List Bs} {w:Bs} {i:Nat},i<L.length->(∀ j,j<i->L[j]?≠some w)->L[i]?=some w->findB w L=some i
 | [],w,i,h,_,_=>by simp at h
 | a::L,w,0,_,_,h=>by
  unfold findB;rw[if_pos (by simpa using h)]
 | a::L,w,i+1,h,h1,h2=>by
  unfold findB;rw[if_neg (fun e=>h1 0 (by omega) (by simp[e]))];rw[findB_of (i:=i) (by simpa using h) (fun j b=>by have:=h1 (j+1) (by omega);simpa using this) (by simpa using h2)];rfl
theorem findB_not:∀ {L:List Bs} {w:Bs},(∀ j,j<L.length->L[j]?≠some w)->findB w L=none
 | [],w,_=>rfl
 | a::L,w,h=>by
  unfold findB;rw[if_neg (fun e=>h 0 (by simp) (by simp[e])),findB_not (L:=L) (fun j b=>by have:=h (j+1) (by simp;omega);simpa using this)];rfl
end Go.TM.Tp
namespace Go.Y.Txt
open Go.TM.Tp
attribute [local irreducible] T.wp CV FWK
def KWords(h:Cells):Prop:=∀ k,k<7->h.cell? ⟨1,k*4,none⟩=some (.string (str (wordT k)))
variable {h:LH}{z:Addr}
theorem KWords.le{h h':Cells}(b:h.le h')(k:KWords h):KWords h':=fun i a=>Qo b (k i a)
theorem c3763{w w':Bs}(b:h.get.cell? z=some (.string (str w)))(b1 a:Bool)(g:Value):Pu Tryz.prog 129 #[.agg #[.string (str w'),.bool b1,.bool a,g],.pointer (some z)] h (.bool (decide (w'=w))):=by
 refine w3763 Qr ?_;refine Qv b ?_;refine Ga undS ?_;refine gZ ?_;exact Qh ⟨rfl,rfl⟩
theorem sliceKinds{X:XP}{Q:Leaf->LH->Prop}{K:Value->T}(a:(K (.slice (some ⟨1,0,none⟩) 7 7)).wp X Tryz.prog Q h):(T.sem false (Instr.sliceAt 137 (.pointer (some ⟨1,0,none⟩)) none none none) K).wp X Tryz.prog Q h:=by
 refine Jh (A:=fun v h'=>v=.slice (some ⟨1,0,none⟩) 7 7/\h'=h.get) ?_ (by rintro _ _ ⟨rfl,rfl⟩;exact a);have e:Qe Tryz.prog (Instr.sliceAt 137 (.pointer (some ⟨1,0,none⟩)) none none none) (fun v h'=>v=.slice (some ⟨1,0,none⟩) 7 7/\h'=h.get) (fun _ _=>False) h.get=(Value.slice (some ⟨1,0,none⟩) 7 7=.slice (some ⟨1,0,none⟩) 7 7/\h.get=h.get):=by kernel_rfl
 rw[e];exact⟨rfl,rfl⟩
theorem c3762(n:Tre.Kinds h.get)(hw:KWords h.get){w:Bs}(v:h.get.cell? z=some (.string (str w))) :
  Pu Tryz.prog 128 #[.slice (some ⟨1,0,none⟩) 7 7,.func (.func 129) #[] #[.pointer (some z)]] h (.int .i64 (match findB w wordsT with|some k=>(k:Int)|none=>-1)):=by
 refine w3762 Qr ?_;refine Jl (fun o vs h'=>h'=h/\∃ i:Nat,vs=[.int .i64 0,.int .i64 i]/\i<=7/\o=7-i/\∀ j,j<i->wordsT[j]?≠some w) (fun vs h'=>h'=h/\∃ i:Int,vs=[.int .i64 0,.int .i64 i]/\∀ j,j<7->wordsT[j]?≠some w) ⟨rfl,0,rfl,by omega,rfl,fun j m=>absurd m (by omega)⟩ ?_ ?_
 ·rintro Y o vs _ t ⟨rfl,i,rfl,A,rfl,b⟩;refine yJ (fun q=>?_) (fun q=>?_)
  ·have a:i<7:=by omega
   have u:0<=(i:Int)/\(i:Int)<((7:Nat):Int):=by omega
   have p:((⟨1,0,none⟩ : Addr).add ((i:Int).toNat*4)).add 0=⟨1,i*4,none⟩:=by rw[Qa,Qa,Int.toNat_natCast];simp
   have f:((⟨1,0,none⟩ : Addr).add ((i:Int).toNat*4)).add 1=⟨1,i*4+1,none⟩:=by rw[Qa,Qa,Int.toNat_natCast];simp
   have g:((⟨1,0,none⟩ : Addr).add ((i:Int).toNat*4)).add 2=⟨1,i*4+2,none⟩:=by rw[Qa,Qa,Int.toNat_natCast];simp
   have l:((⟨1,0,none⟩ : Addr).add ((i:Int).toNat*4)).add 3=⟨1,i*4+3,none⟩:=by rw[Qa,Qa,Int.toNat_natCast];simp
   have r:=hw i a;have x:=n.land i a;have y:=n.since i a;have s:=n.gives i a;refine gZ ?_;rw[p,f,g,l];refine Qv r ?_;refine gZ ?_;refine D9 s ?_;refine J9 (H2 Qr (by rfl) (c3763 v (Tre.landK i) (Tre.sinceK i) _)) ?_;rintro _ _ ⟨rfl,rfl⟩;have d:wordsT[i]?=some (wordT i):=by
    unfold wordT;have:i<wordsT.length:=a;rw[List.getElem?_eq_getElem this];rfl
   refine yI (fun e=>?_) (fun e=>?_)
   ·have c:wordT i=w:=by simpa using e
    refine gI ?_;refine gZ ?_;refine Qh ⟨?_,rfl⟩;rw[findB_of (L:=wordsT) (i:=i) a b (by rw[d,c])]
   ·have c:wordT i≠w:=by simpa using e
    refine Qj (t (7-(i+1)) _ _ (by omega) ⟨rfl,i+1,?_,by omega,rfl,fun j m=>?_⟩)
    ·rw[Qm (by omega) (by omega)];rfl
    ·by_cases e:j=i
     ·subst e;rw[d];simpa using c
     ·exact b j (by omega)
  ·exact gH ⟨rfl,_,rfl,fun j m=>b j (by omega)⟩
 ·rintro vs _ ⟨rfl,i,rfl,b⟩;refine gZ ?_;refine Qh ⟨?_,rfl⟩;rw[findB_not (L:=wordsT) b]
end Go.Y.Txt
end
section
namespace Go.Y
open Go.Proofs.YtpkjbclajflhbaaGreatDoor
open Go.ChangeShapes Go.WideShapes Go.RowKit
theorem laid_cell{P:Program}{w:World}{n:String}{d:DataW Unit}:∀ {l:List (String×DataW Unit)} {ps:List MemPlace},DataW.LaidVars P w l ps->(n,d)∈l->∃ g t cs fuel p,P.globalNamed n=some g/\(P.globals[g]?).map (·.type)=some t/\w.var? P n=some cs/\DataW.trod (fun _=>()) P w 0 (fun _=>true) false fuel t cs.toList=some (d,p)/\∀ x∈MemPlace.row ⟨g,0,none⟩ cs.size,x∈ps
 | [],_,h,hm=>by simp at hm
 | (m,e)::r,ps,h,hm=>by
  obtain⟨g,t,cs,fuel,p,q,h1,h2,h3,s,h5,c⟩:=h;rcases List.mem_cons.1 hm with a|a
  ·cases a;exact⟨g,t,cs,fuel,p,h1,h2,h3,s,fun x b=>by rw[c,List.mem_append,List.mem_append];exact .inl (.inl b)⟩
  ·obtain⟨g,t,cs,fuel,p,f,i,j,k,o⟩:=laid_cell h5 a;exact⟨g,t,cs,fuel,p,f,i,j,k,fun x b=>by rw[c,List.mem_append];exact .inr (o x b)⟩
def powN : String := "internal/strconv.uint64pow10"
theorem gPow:Tryz.prog.globalNamed powN=some 5:=by kernel_rfl
theorem tPow:(Tryz.prog.globals[5]?).map (·.type)=some 313:=by kernel_rfl
theorem und64:Tryz.prog.underlying 292=some (.int .u64):=by kernel_rfl
theorem pow_of_laid{l:List (String×DataW Unit)}{W:World}(h:laidMetH Tryz.prog l W)(hm:(powN,Rows.laid_internal_strconv_uint64pow10)∈l):Tp.PowT 5 (getW W):=by
 obtain⟨ps,A,_⟩:=(laidMetH_iff.1 h).1;obtain⟨g',G,f,g,F,p,s,t,k,_⟩:=laid_cell A (List.mem_filter.2 ⟨hm,rfl⟩);obtain rfl:=Option.some.inj (gPow.symm.trans p);obtain rfl:=Option.some.inj (tPow.symm.trans s);obtain⟨xs,m,_,u,D,E,o⟩:=DataW.trod_array Tryz.underlying313 k;have v:Tryz.prog.cellsOf 292=1:=by kernel_rfl
 have b:∀ j:Nat,W.cell? ⟨5,j,none⟩=f[j]?:=World.var?_cell gPow t;have u:(Rows.laid_internal_strconv_uint64pow10:DataW Unit)=.agg (xs.map (·.1)):=(Prod.mk.inj u).1;intro j B;refine Kj ?_;rw[b];have q:=o j (by omega);rw[v]at q;cases d:xs[j]? with
 | none=>have:=List.getElem?_eq_none_iff.1 d;omega
 | some y =>
  rw[d]at q;obtain⟨n,w,x,_⟩:=DataW.trod_int und64 q;have C:(xs.map (·.1))[j]?=some (.lit (.int .u64 n)):=by rw[List.getElem?_map,d,x];rfl
  have c:∀ i:Nat,i<5->∀ z:DataW Unit,(xs.map (·.1))[i]?=some z->z=.lit (.int .u64 (10^i:Nat)):=by
   intro i r z e;have:(DataW.agg (xs.map (·.1)):DataW Unit)=Rows.laid_internal_strconv_uint64pow10:=u.symm;unfold Rows.laid_internal_strconv_uint64pow10 at this;injection this with this;rw[this]at e
   match i,r with
   | 0,_=>cases e;rfl
   | 1,_=>cases e;rfl
   | 2,_=>cases e;rfl
   | 3,_=>cases e;rfl
   | 4,_=>cases e;rfl
  have a:=c j B _ C;injection a with a;injection a with _ a;subst a;have:=congrArg (·[0]?) w;simp at this;simpa using this
end Go.Y
namespace Go.Y.Tre
open Go.Proofs.YtpkjbclajflhbaaGreatDoor
open Go.ChangeShapes Go.WideShapes Go.RowKit
variable {W:World}
theorem str_arg{r:Reach}{b0:Nat}{v:Value}(hv:Value.okWide Tryz.prog W r b0 9 v):∃ t:Tp.Bs,v=.string (str t):=by
 obtain⟨s,rfl⟩:=WideShapes.okWide_string Txt.undS hv;exact⟨s.data.toList,by rw[<- str_of s]⟩
theorem G8{sp:Nat->Bool}{fuel:Nat}{cs:List Value}{x:DataW (List UInt8)×List MemPlace}{s:List UInt8}{y:List (DataW (List UInt8))}
 (h:DataW.trod (funcToken Tryz.prog) Tryz.prog W 0 sp true fuel 136 cs=some x)(e:x.1=.agg (.lit (.string s)::y)):cs[0]?=some (.string (str s)):=by
 obtain⟨k,n,_,rfl,d,hlen,g⟩:=DataW.trod_struct Tryz.underlying136 h;rw[show Tryz.prog.cellsOf 136=4 by kernel_rfl]at d
 match cs,d,k,hlen with
 | [v0,v1,v2,i],_,[j,l,m],_ =>
  have h0:DataW.trod (funcToken Tryz.prog) Tryz.prog W 0 sp true n 9 (([v0,v1,v2,i].drop 0).take (Tryz.prog.cellsOf 9))=some j:=g 0 _ rfl;rw[show Tryz.prog.cellsOf 9=1 by kernel_rfl]at h0;obtain⟨b,c,f,_⟩:=DataW.trod_string Txt.undS h0;simp only[List.map_cons,List.map_nil,DataW.agg.injEq,List.cons.injEq]at e;have a:=e.1;rw[f]at a;simp only[DataW.lit.injEq,Lit.string.injEq]at a;simp at c;rw[c,<- a,<- str_of b];rfl
theorem words_of_laid{l:List (String×DataW Unit)}(h:laidMetH Tryz.prog l W)(v:(kindsN,Rows.laid_touchmark_treaty_kinds)∈l):Txt.KWords (getW W):=by
 obtain⟨g,t,cs,fuel,p,u,x,hv,s⟩:=laidMetH.funcs h (n:=kindsN) v;obtain rfl:=Option.some.inj (gKinds.symm.trans u);obtain rfl:=Option.some.inj (tKinds.symm.trans x);obtain⟨xs,m,_,d,y,w,c⟩:=DataW.trod_array Tryz.underlying137 s;have b:∀ j:Nat,W.cell? ⟨1,j,none⟩=cs[j]?:=World.var?_cell gKinds hv;obtain⟨x0,x1,x2,x3,x4,x5,z,rfl⟩:=array7 w;have f:Tryz.prog.cellsOf 136=4:=by kernel_rfl
 simp only[Prod.mk.injEq]at d;obtain⟨d,_⟩:=d;simp only[DataW.funcsOut,DataW.funcsOutAll,List.map_cons,List.map_nil,DataW.agg.injEq,List.cons.injEq,beq_self_eq_true,if_true,and_true]at d;obtain⟨k,o,q,r,g4,g5,g6⟩:=d;rw[f]at c;have key:∀ i,i<7->((cs.toList.drop (i*4)).take 4)[0]?=some (.string (str (Tp.wordT i))):=by
  intro i e;have a:=c i e
  match i,e with
  | 0,_=>exact G8 a k.symm
  | 1,_=>exact G8 a o.symm
  | 2,_=>exact G8 a q.symm
  | 3,_=>exact G8 a r.symm
  | 4,_=>exact G8 a g4.symm
  | 5,_=>exact G8 a g5.symm
  | 6,_=>exact G8 a g6.symm
 intro i e;refine Kj ?_;rw[b];have:=key i e;rw[List.getElem?_take,if_pos (by omega),List.getElem?_drop]at this;simpa using this
end Go.Y.Tre
end
section
namespace Go.TM.Tp
def fieldsP(l:Bs):Option (Bs×List Bs):=if (cutV 58 l).2.2=true/\(cutV 58 l).2.1.getLast?=some 59 then some ((cutV 58 l).1,cut 59 (trimS 59 (cutV 58 l).2.1)) else none
theorem cutV_len(c:UInt8)(l:Bs):(cutV c l).1.length<=l.length/\(cutV c l).2.1.length<=l.length:=by
 rcases Z5 c l with h|⟨a,r,rfl,h⟩
 ·rw[U0 h];simp
 ·rw[Uz h];simp;omega
theorem trimS_len(c:UInt8)(l:Bs):(trimS c l).length<=l.length:=by
 unfold trimS;split
 ·rw[List.length_dropLast];omega
 ·exact Nat.le_refl _
def lineCut(s:Bs):Bs×Bs:=match cut 10 s with
 | a::_::_=>(a++[10],s.drop (a.length+1))
 | _=>(s,[])
theorem Hi{l:Bs}(h:(10:UInt8)∉l):lineCut l=(l,[]):=by unfold lineCut;rw[Zw h]
theorem Hh{a r:Bs}(h:(10:UInt8)∉a):lineCut (a++10::r)=(a++[10],r):=by
 unfold lineCut;rw[Z8 h];have:=Z4 10 r;cases e:cut 10 r with
 | nil=>exact absurd e this
 | cons x y=>simp
theorem trimS_snoc(c:UInt8)(a:Bs):trimS c (a++[c])=a:=by unfold trimS;simp
theorem trimS_none{c:UInt8}{a:Bs}(h:c∉a):trimS c a=a:=by
 unfold trimS;rw[if_neg];intro e;exact h (List.mem_of_getLast? e)
theorem lines_step{s:Bs}(h0:s≠[]):linesL s=trimS 10 (lineCut s).1::linesL (lineCut s).2:=by
 rcases Z5 10 s with h|⟨a,r,rfl,h⟩
 ·rw[Hi h,lines_one h h0,trimS_none h];rfl
 ·rw[Hh h,lines_cons h,trimS_snoc]
theorem Hv{s:Bs}(h0:s≠[]):(lineCut s).2.length<s.length/\(lineCut s).1.length<=s.length:=by
 have hp:=List.length_pos_iff.2 h0;rcases Z5 10 s with h|⟨a,r,rfl,h⟩
 ·rw[Hi h];simp;exact hp
 ·rw[Hh h];simp;omega
end Go.TM.Tp
end
section
namespace Go.TM.Tp
def bxC(z:Nat)(el:TypeId)(v:Value):Cells:=oneC z (.cells #[v] el (0,0))
variable {h:LH}{z:Nat}{el:TypeId}{v w:Value}
theorem Yu(a:h.get z=none):(h.add (bxC z el v)).get z=some (true,.cells #[v] el (0,0)):=Jm a
theorem bx_cell(a:h.get z=none):(h.add (bxC z el v)).get.cell? ⟨z,0,none⟩=some v:=by
 unfold Cells.cell?;simp only[Yu a];rfl
theorem bx_store(a:h.get z=none):{ h.add (bxC z el v) with get:=(h.add (bxC z el v)).get.setCell ⟨z,0,none⟩ w }=h.add (bxC z el w):=by
 have b:(h.add (bxC z el v)).get.setCell ⟨z,0,none⟩ w=(h.add (bxC z el w)).get:=by
  funext r;unfold Cells.setCell;by_cases e:r=z
  ·subst e;rw[Yu a,if_pos rfl,Yu a];rfl
  ·rw[if_neg e];show h.get.add (bxC z el v) r=h.get.add (bxC z el w) r;unfold Cells.add bxC oneC;simp only[if_neg e]
 show (⟨(h.add (bxC z el v)).get.setCell ⟨z,0,none⟩ w,_,_,_⟩ : LH)=_;rw[b];rfl
theorem Zy(h:LH)(k:Cells):h.le (h.add k):=⟨fun _ _ a=>Qi a,rfl,rfl,rfl⟩
theorem U7{X:XP}{P:Program}{Q:Leaf->LH->Prop}{k:T}(a:h.get z=none)(h1:isOne w=true)(b:k.wp X P Q (h.add (bxC z el w))):(T.store (Addr.add ⟨z,0,none⟩ 0) w k).wp X P Q (h.add (bxC z el v)):=by
 have e:Addr.add ⟨z,0,none⟩ 0=⟨z,0,none⟩:=by rw[Qa]
 rw[e];refine t_store h1 ⟨_,Yu a⟩ (bx_cell a) (by simp[Cells.frozen?,Yu a]) ?_;rw[bx_store a];exact b
def NextLine(s:Bs)(xs:List Value)(s':Bs):Prop:=s≠[]/\xs=[.string (str (lineCut s).1)]/\s'=(lineCut s).2
def NoLine(s:Bs):Prop:=s=[]
end Go.TM.Tp
namespace Go.Y.Txt
open Go.TM.Tp
attribute [local irreducible] T.wp CV FWK
theorem hands3743{X:XP}(B:XOK X){h₀:LH}{z:Nat}(t:Bs)(K:t.length<=2^40):HandsF X Tryz.prog (.func (.func 93) #[] #[.pointer (some ⟨z,0,none⟩)]) h₀ (bxC z 9 (.string (str t))) NextLine NoLine t:=by
 intro y J E I u k h hle A C;refine H2 B (by rfl) (?_:FW X Tryz.prog 93 #[y,.pointer (some ⟨z,0,none⟩)] (h.add (bxC z 9 (.string (str t)))) _);refine w3743 B ?_;refine Je (fun G vs h'=>vs=[]/\∃ (s:Bs) (hm:LH),h'=hm.add (bxC z 9 (.string (str s)))/\hm.get z=none/\h₀.le hm/\J s hm/\G=s.length/\s.length<=2^40)
  ⟨rfl,t,h,rfl,Jx C,hle,A,rfl,K⟩ ?_
 rintro Y G vs _ w ⟨rfl,s,hm,rfl,o,m,p,rfl,n⟩;have l:=bx_cell (el:=9) (v:=.string (str s)) o;have q:∀ H,Disj hm.get (bxC z 9 (.string (str H))):=fun H=>J5 o;refine gZ ?_;refine Qv l ?_;refine Q8 undS ?_;refine yJ (fun D=>?_) (fun D=>?_)
 ·have h0:s≠[]:=by rintro rfl;simp at D
  have hlen:=Hv h0;have i:=CV.frame B (k s hm [.string (str (lineCut s).1)] (lineCut s).2 m ⟨h0,rfl,rfl⟩ p) (q (lineCut s).2);refine Qv l ?_;refine t_pu (c3569 s 10) ?_;rcases Z5 10 s with h1|⟨a,r,rfl,h1⟩
  ·rw[D0 h1];rw[Hi h1]at i hlen;refine gZ ?_;refine t_if (fun e=>absurd e (by decide)) (fun _=>?_);refine Qv l ?_;refine U7 o rfl ?_;refine J9 i ?_;rintro b j ⟨h',d,rfl,c,⟨rfl,g⟩|⟨rfl,f⟩⟩
   ·refine yF ?_;exact Qj (w _ _ _ hlen.1 ⟨rfl,[],h',rfl,Jx d,c,g,rfl,by simp⟩)
   ·refine yT ?_;refine gI ?_;refine gZ ?_;exact Qh ⟨LH.le_trans c (Zy _ _),.inr (u _ _ f d)⟩
  ·rw[W5 h1];rw[Hh h1]at i hlen;have hw:wrap .i64 ((a.length:Int)+1)=((a.length+1:Nat):Int):=by
    have:(a++10::r).length=a.length+r.length+1:=by simp;omega
    rw[Qm (by omega) (by omega)];rfl
   have hb:a.length+1<=(a++10::r).length:=by simp
   have F:(a++10::r).take (a.length+1)=a++[10]:=by simp[List.take_append,List.take_of_length_le]
   have x:(a++10::r).drop (a.length+1)=r:=by simp
   refine gZ ?_;refine t_if (fun _=>?_) (fun e=>by omega);refine Qv l (Qv l ?_);rw[hw];refine Zr ?_ ?_
   ·refine We undS hb ?_;rw[F];refine Qs ?_;refine gZ ?_;refine Qv l ?_;refine gZ ?_;refine Zr ?_ ?_
    ·refine Wd undS hb ?_;rw[x];refine Qs ?_;refine gZ ?_;refine U7 o rfl (J9 i ?_);rintro b j ⟨h',d,rfl,c,⟨rfl,g⟩|⟨rfl,f⟩⟩
     ·refine yF ?_;exact Qj (w _ _ _ hlen.1 ⟨rfl,r,h',rfl,Jx d,c,g,rfl,by simp at hlen n;omega⟩)
     ·refine yT ?_;refine gI ?_;refine gZ ?_;exact Qh ⟨LH.le_trans c (Zy _ _),.inr (u _ _ f d)⟩
    ·refine gZ ?_;refine Qv l ?_;refine gZ ?_;refine Wd undS hb ?_;rw[x];refine Qs ?_;refine gZ ?_;refine U7 o rfl (J9 i ?_);rintro b j ⟨h',d,rfl,c,⟨rfl,g⟩|⟨rfl,f⟩⟩
     ·refine yF ?_;exact Qj (w _ _ _ hlen.1 ⟨rfl,r,h',rfl,Jx d,c,g,rfl,by simp at hlen n;omega⟩)
     ·refine yT ?_;refine gI ?_;refine gZ ?_;exact Qh ⟨LH.le_trans c (Zy _ _),.inr (u _ _ f d)⟩
   ·refine Wd undS hb ?_;rw[x];refine Qs ?_;refine gZ ?_;refine Qv l ?_;refine gZ ?_;refine We undS hb ?_;rw[F];refine Qs ?_;refine gZ ?_;refine U7 o rfl (J9 i ?_);rintro b j ⟨h',d,rfl,c,⟨rfl,g⟩|⟨rfl,f⟩⟩
    ·refine yF ?_;exact Qj (w _ _ _ hlen.1 ⟨rfl,r,h',rfl,Jx d,c,g,rfl,by simp at hlen n;omega⟩)
    ·refine yT ?_;refine gI ?_;refine gZ ?_;exact Qh ⟨LH.le_trans c (Zy _ _),.inr (u _ _ f d)⟩
 ·have h0:s=[]:=List.eq_nil_of_length_eq_zero (by omega);refine gH ?_;refine gZ ?_;exact Qh ⟨LH.le_trans m (Zy _ _),.inl ⟨s,h0,I _ _ _ p (q s)⟩⟩
theorem c3726{h:LH}(s:Bs):FW X0 Tryz.prog 47 #[.string (str s)] h fun r h'=>∃ z,r=.func (.func 93) #[] #[.pointer (some ⟨z,0,none⟩)]/\h.get z=none/\h'=h.add (bxC z 9 (.string (str s))):=by
 refine w3726 Qr ?_;refine Kg fun z a=>?_;refine Qh ⟨z,rfl,a,?_⟩;unfold LH.add;congr 1;funext r;unfold Cells.upd Cells.add bxC oneC;by_cases e:r=z
 ·subst e;simp only[if_pos rfl,a]
 ·simp only[if_neg e];cases h.get r<;>rfl
end Go.Y.Txt
end
section
namespace Go.TM.Rv
attribute [local irreducible] T.wp CV FWK
/-! ### Halves -/
def diff(h h':Cells):Cells:=fun r=>match h r with
 | some _=>none
 | none=>h' r
theorem diff_disj(h h':Cells):Disj h (diff h h'):=fun r=>by
 unfold diff;cases h r with
 | none=>exact .inl rfl
 | some x=>exact .inr rfl
theorem diff_get{h h':Cells}(a:h.le h'):h.add (diff h h')=h':=by
 funext r;unfold Cells.add diff;cases e:h r with
 | none=>rfl
 | some x=>exact(a r x e).symm
theorem diff_add{h h':LH}(b:h.le h'):h.add (diff h.get h'.get)=h':=by
 obtain⟨h1,h2,h3,a⟩:=b;show ({ h with get:=h.get.add (diff h.get h'.get) }:LH)=h';rw[diff_get h1];cases h;cases h';simp only at h2 h3 a;subst h2;subst h3;subst a;rfl
section
variable {P:Program} {X:XP} {Q:Leaf->LH->Prop}
end
end Go.TM.Rv
end
section
namespace Go.TM.Tp
attribute [local irreducible] T.wp CV FWK
theorem t_grB{X:XP}{P:Program}{Q:Leaf->LH->Prop}{hB h':LH}{f:FuncId}{args:Array Value}{k:Value->T}{V:Value->LH->Prop}(hle:hB.le h')(c:Gr P f args hB V)
 (l:∀ v b h'',hB.le b->b.le h''->h'.le h''->(∀ r,hB.get r=none->h'.get r≠none->b.get r=none)->V v b->(k v).wp X P Q h''):(T.call false f args k).wp X P Q h':=by
 have e:=Rv.diff_add hle;have d:=Rv.diff_disj hB.get h'.get;rw[<- e];refine Jp (Yx (FW.frame Qr c d)) ?_;rintro v _ ⟨h2,d2,rfl,a,hv⟩;refine l v h2 _ a (Zy _ _) ⟨fun r x g=>?_,a.2.1.trans ?_,a.2.2.1.trans ?_,a.2.2.2.trans ?_⟩ (fun r h0 h1=>?_) hv
 ·rw[<- e]at g;cases hb:hB.get r with
  | some y =>
   have j:h'.get r=some y:=hle.1 _ _ hb;rw[e]at g;rw[j]at g;cases g;exact Qi (a.1 _ _ hb)
  | none =>
   have i:Rv.diff hB.get h'.get r=some x:=by
    have:=g;unfold LH.add Cells.add at this;simp only[hb]at this;exact this
   exact Q3 d2 i
 ·exact hle.2.1.symm
 ·exact hle.2.2.1.symm
 ·exact hle.2.2.2.symm
 ·rcases d2 r with h|h
  ·exact h
  ·exfalso;apply h1;unfold Rv.diff at h;rw[h0]at h;exact h
theorem growing_rebase{α:Type}{Enc d:α->List Value->Prop}{el:TypeId}{k:Nat}{hB e h' h'':LH}{p:Option Addr}{n c:Nat}{l:List α}(hm:∀ x ws,Enc x ws->d x ws)(h2:h'.le h'')(h:∀ r,hB.get r=none->h'.get r≠none->e.get r=none)(g:Growing Enc el k hB.get h'.get p n c l):Growing d el k e.get h''.get p n c l:=by
 obtain⟨vs,o,r⟩:=g.row;refine⟨⟨vs,o.le h2.1,r.mono hm⟩,fun a f=>h _ (g.new a f) ?_⟩;rcases o.2 with⟨h1,_⟩|⟨b,cs,h1,h3,_⟩
 ·rw[h1]at f;cases f
 ·rw[h1]at f;cases f;rw[h3];simp
end Go.TM.Tp
namespace Go.Y.Txt
open Go.TM.Tp
attribute [local irreducible] T.wp CV FWK
end Go.Y.Txt
end
section
namespace Go.TM.Tp
attribute [local irreducible] T.wp CV FWK
theorem t_grX{X:XP}(l:XOK X){P:Program}{Q:Leaf->LH->Prop}{hB h':LH}{f:FuncId}{args:Array Value}{k:Value->T}{V:Value->LH->Prop}(hle:hB.le h')(c:FW X P f args hB fun v h''=>hB.le h''/\V v h'')
 (m:∀ v b h'',hB.le b->b.le h''->h'.le h''->(∀ r,hB.get r=none->h'.get r≠none->b.get r=none)->V v b->(k v).wp X P Q h''):(T.call false f args k).wp X P Q h':=by
 have e:=Rv.diff_add hle;have d:=Rv.diff_disj hB.get h'.get;rw[<- e];refine Jp (FW.frame l c d) ?_;rintro v _ ⟨h2,d2,rfl,a,hv⟩;refine m v h2 _ a (Zy _ _) ⟨fun r x g=>?_,a.2.1.trans ?_,a.2.2.1.trans ?_,a.2.2.2.trans ?_⟩ (fun r h0 h1=>?_) hv
 ·rw[<- e]at g;cases hb:hB.get r with
  | some y =>
   have j:h'.get r=some y:=hle.1 _ _ hb;rw[e]at g;rw[j]at g;cases g;exact Qi (a.1 _ _ hb)
  | none =>
   have i:Rv.diff hB.get h'.get r=some x:=by
    have:=g;unfold LH.add Cells.add at this;simp only[hb]at this;exact this
   exact Q3 d2 i
 ·exact hle.2.1.symm
 ·exact hle.2.2.1.symm
 ·exact hle.2.2.2.symm
 ·rcases d2 r with h|h
  ·exact h
  ·exfalso;apply h1;unfold Rv.diff at h;rw[h0]at h;exact h
end Go.TM.Tp
namespace Go.Y.Txt
open Go.TM.Tp Go.TM.Tr
attribute [local irreducible] T.wp CV FWK
variable {h' hB h'':LH}{b:Nat}{vs:List Value}{f:TC}{es:List Ev}{v:Value}
theorem eventEnc_mono{h h':Cells}(a:h.le h'):∀ x ws,EventEnc h x ws->EventEnc h' x ws:=by
 rintro x _ ⟨q,m,c,rfl,hm,s⟩;exact⟨q,m,c,rfl,hm,s.le IntE.grow a⟩
structure RSt(hB h':LH)(b:Nat)(vs:List Value)(f:TC)(es:List Ev):Prop where
 le:hB.le h'
 new:hB.get b=none
 cell:h'.get b=some (true,.cells vs.toArray 141 (0,0))
 ev:Growing (EventEnc hB.get) 120 5 hB.get h'.get f.p f.n f.c es
theorem RSt.up(s:RSt hB h' b vs f es)(a:h'.le h''):RSt hB h'' b vs f es :=
 ⟨LH.le_trans s.le a,s.new,a.1 _ _ s.cell,s.ev.le a.1⟩
theorem RSt.rebase{a:LH}(s:RSt hB h' b vs f es)(h1:hB.le a)(h2:a.le h'')(h3:h'.le h'')(c:∀ r,hB.get r=none->h'.get r≠none->a.get r=none):RSt a h'' b vs f es :=
 ⟨h2,c _ s.new (by rw[s.cell];simp),h3.1 _ _ s.cell,growing_rebase (eventEnc_mono h1.1) h3 c s.ev⟩
theorem RSt.at(s:RSt hB h' b vs f es){j:Nat}(a:vs[j]?=some v):h'.get.cell? ⟨b,j,none⟩=some v:=by
 unfold Cells.cell?;rw[s.cell];simpa using a
theorem RSt.put(s:RSt hB h' b vs f es)(j:Nat)(v:Value):RSt hB { h' with get:=h'.get.setCell ⟨b,j,none⟩ v } b (vs.set j v) f es:=by
 have ne:∀ r,r≠b->(h'.get.setCell ⟨b,j,none⟩ v) r=h'.get r:=fun r hr=>by unfold Cells.setCell;rw[if_neg hr]
 have hb:(h'.get.setCell ⟨b,j,none⟩ v) b=some (true,.cells (vs.set j v).toArray 141 (0,0)):=by
  unfold Cells.setCell;rw[if_pos rfl,s.cell];simp
 refine⟨⟨fun r x c=>?_,s.le.2⟩,s.new,hb,?_⟩
 ·have hr:r≠b:=by rintro rfl;rw[s.new]at c;cases c
  show (h'.get.setCell ⟨b,j,none⟩ v) r=_;rw[ne r hr];exact s.le.1 _ _ c
 ·obtain⟨ws,o,r⟩:=s.ev.row;refine⟨⟨ws,⟨o.1,?_⟩,r⟩,s.ev.new⟩;rcases o.2 with h1|⟨a,cs,h1,h3,d⟩
  ·exact .inl h1
  ·refine .inr ⟨a,cs,h1,?_,d⟩;have hr:a≠b:=by
    rintro rfl;rw[s.cell]at h3;cases h3
   show (h'.get.setCell ⟨b,j,none⟩ v) a=_;rw[ne _ hr];exact h3
theorem D7{X:XP}{Q:Leaf->LH->Prop}{a:Addr}{k:T}(s:RSt hB h' b vs f es)(j:Nat)(c:a=⟨b,j,none⟩)(d:j<vs.length)(hv:isOne v=true)
 (e:∀ h'',RSt hB h'' b (vs.set j v) f es->(k).wp X Tryz.prog Q h''):(T.store a v k).wp X Tryz.prog Q h':=by
 subst c;refine Go.TM.t_store hv ⟨_,s.cell⟩ (s.at (List.getElem?_eq_getElem d)) ?_ (e _ (s.put j v));unfold Cells.frozen?;rw[s.cell];simp
def rdL(x:TF)(f:TC)(n:Nat):List Value:=[.int .i64 x.items,.int .i64 x.lands,.int .i64 x.start,.int .i64 x.depend,.int .i64 x.refuse,.int .i64 x.turn,.slice f.p f.n f.c,.int .i64 (n:Int)]
theorem RSt.withR(s:RSt hB h' b vs f es):({ hB with get:=hB.get.upd b (true,.cells vs.toArray 141 (0,0)) }:LH).le h'/\hB.le { hB with get:=hB.get.upd b (true,.cells vs.toArray 141 (0,0)) }:=by
 refine⟨⟨fun r x a=>?_,s.le.2⟩,⟨Zc _ s.new,rfl,rfl,rfl⟩⟩;by_cases hr:r=b
 ·subst hr;change (hB.get.upd r _) r=_ at a;rw[Qn]at a;cases a;exact s.cell
 ·change (hB.get.upd b _) r=_ at a;rw[Qp _ _ hr]at a;exact s.le.1 _ _ a
theorem RSt.back{a:LH}(s:RSt hB h' b vs f es)(h1:({ hB with get:=hB.get.upd b (true,.cells vs.toArray 141 (0,0)) }:LH).le a)(h2:a.le h'')(h3:h'.le h'')
 (h:∀ r,({ hB with get:=hB.get.upd b (true,.cells vs.toArray 141 (0,0)) }:LH).get r=none->h'.get r≠none->a.get r=none) :
  ∃ c,hB.le c/\RSt c h'' b vs f es/\∀ r x,r≠b->a.get r=some x->c.get r=some x:=by
 let c:LH:={ a with get:=fun r=>if r=b then none else a.get r }
 have g:hB.le c:=⟨fun r x d=>by
  have hr:r≠b:=by rintro rfl;rw[s.new]at d;cases d
  show (if r=b then none else a.get r)=_;rw[if_neg hr];exact h1.1 _ _ (by show (hB.get.upd b _) r=_;rw[Qp _ _ hr];exact d),h1.2⟩
 refine⟨c,g,s.rebase g ⟨fun r x d=>?_,h2.2⟩ h3 (fun r h0 i=>?_),fun r x hr d=>?_⟩
 ·have e:(if r=b then none else a.get r)=some x:=d;split at e
  ·cases e
  ·exact h2.1 _ _ e
 ·show (if r=b then none else a.get r)=none;split
  ·rfl
  ·rename_i hr;exact h r (by show (hB.get.upd b _) r=_;rw[Qp _ _ hr];exact h0) i
 ·show (if r=b then none else a.get r)=_;rw[if_neg hr];exact d
end Go.Y.Txt
end
section
namespace Go.TM.Tp
open Go.TM.Tr
variable {k:Nat}{ns ms:List Nat}
theorem cell?_same{h h':Cells}{a:Addr}{v:Value}(hc:h.cell? a=some v)(hb:∀ x,h a.block=some x->h' a.block=some x):h'.cell? a=some v:=by
 obtain⟨x,b,_⟩:=Gg hc;unfold Cells.cell? at hc ⊢;rw[hb x b];rw[b]at hc;exact hc
def lineG(first:Bool)(w:Bs)(f:List Bs):Option LT :=
 if decide (w=wTreaty)≠first then none
 else if first then (match numsL f with|some [a,b,c,d,e,f]=>some (.head a b c d e f)|_=>none)
 else (findB w wordsT).bind fun k=>(eventL k f).map .event
theorem lineG_w0(first:Bool)(fs:List Bs):lineG first [] fs=none:=by
 cases first<;>rfl
theorem Dw(first:Bool)(l:Bs):lineT first l=(fieldsP l).bind fun x=>lineG first x.1 x.2:=by
 show (fieldsL l).bind (fun x=>lineG first x.1 x.2)=_;unfold fieldsP;rcases Z5 58 l with h|⟨a,r,rfl,h⟩
 ·rw[U0 h,fields_none h,if_neg (by simp)]
 ·rw[Uz h,fields_some h];simp only[true_and];by_cases h0:a=[]
  ·subst h0;rw[if_pos rfl];split
   ·simp[lineG_w0]
   ·rfl
  ·rw[if_neg h0];split
   ·rename_i b;unfold trimS;rw[if_pos b]
   ·rfl
theorem Yr:∀ {L:List Bs} {w:Bs} {k:Nat},findB w L=some k->k<L.length
 | [],w,k,h=>by cases h
 | a::L,w,k,h=>by
  unfold findB at h;split at h
  ·cases h;simp
  ·cases e:findB w L with
   | none=>rw[e]at h;cases h
   | some j =>
    rw[e]at h;cases h;have:=Yr e;simp;omega
def fieldsN(k:Nat):Nat:=1+(if landB k then 1 else 0)+(if sinceB k then 1 else 0)
theorem numsOf_len{n m:List Nat}{e:Ev}(h:numsOf k n m=some e):n.length=fieldsN k:=by
 unfold numsOf at h;unfold fieldsN;cases a:landB k<;>cases b:sinceB k<;>rw[a,b]at h
 ·cases h
 all_goals
  match n,h with
  | [],h=>cases h
  | [_],h=>cases h
  | [_,_],h=>first|rfl|cases h
  | [_,_,_],h=>first|rfl|cases h
  | _::_::_::_::_,h=>cases h
theorem eventL_of{f:List Bs}{z:Bs}(b:f.getLast?=some z)(a:numsL f.dropLast=some ns)(hm:listL z=some ms):eventL k f=numsOf k ns ms:=by
 unfold eventL;rw[b,a];simp only[Option.bind_some];rw[hm];rfl
theorem eventL_none1{f:List Bs}(a:numsL f.dropLast=none):eventL k f=none:=by
 unfold eventL;cases f.getLast? with
 | none=>rfl
 | some z=>rw[a];rfl
theorem Hk{f:List Bs}{z:Bs}(a:f.getLast?=some z)(hm:listL z=none):eventL k f=none:=by
 unfold eventL;rw[a];simp only[];cases numsL f.dropLast with
 | none=>rfl
 | some n=>simp only[Option.bind_some];rw[hm];rfl
theorem eventL_len{f:List Bs}(h:f.length≠fieldsN k+1):eventL k f=none:=by
 cases e:eventL k f with
 | none=>rfl
 | some x =>
  exfalso;unfold eventL at e;cases b:f.getLast? with
  | none=>rw[b]at e;cases e
  | some z =>
   rw[b]at e;simp only[]at e;cases a:numsL f.dropLast with
   | none=>rw[a]at e;cases e
   | some n =>
    rw[a]at e;simp only[Option.bind_some]at e;cases hm:listL z with
    | none=>rw[hm]at e;cases e
    | some m =>
     rw[hm]at e;have h1:=numsOf_len e;have h2:=Z6 a;rw[List.length_dropLast]at h2;have:f≠[]:=by rintro rfl;cases b
     have:=List.length_pos_iff.2 this;omega
theorem Uu:∀ k,k<7->(landB k||sinceB k)=true:=by decide
theorem numsOf_of{x0 x1 e:Nat}(f:k<7)(hlen:ns.length=fieldsN k)(h0:ns[0]?=some x0)(h1:ns[1]?=some x1)(d:ns[ns.length-1]?=some e) :
  numsOf k ns ms=some ⟨k,x0,if landB k then (x1:Int) else 0,ints ms,if sinceB k then (e:Int) else 0⟩:=by
 have h2:=Uu k f;unfold fieldsN at hlen;unfold numsOf;cases a:landB k<;>cases b:sinceB k<;>rw[a,b]at hlen h2
 ·cases h2
 all_goals
  match ns,hlen,h0,h1,d with
  | [_,_],c,h0,h1,d=>first|(simp at c;done)|(simp at h0 h1 d;subst h0 h1 d;rfl)
  | [_,_,_],c,h0,h1,d=>first|(simp at c;done)|(simp at h0 h1 d;subst h0 h1 d;rfl)
  | [],c,_,_,_=>simp at c
  | [_],c,_,_,_=>simp at c
  | _::_::_::_::_,c,_,_,_=>simp at c
theorem add_blk(a:Addr)(n:Nat):(a.add n).block=a.block:=by unfold Addr.add;split<;>rfl
end Go.TM.Tp
namespace Go.Y.Txt
open Go.TM.Tp Go.TM.Tr
attribute [local irreducible] T.wp CV FWK
variable {b:Nat}{h:Cells}{el:TypeId}{v w:Value}{X:XP}
theorem sl_other{c hB:Cells}{q:Option Addr}{k:Nat}{l:List Int}(s:Sl IntE 1 c q k l)(g:∀ a,q=some a->a.block≠b)(f:∀ r x,r≠b->c r=some x->hB r=some x):Sl IntE 1 hB q k l:=by
 refine⟨s.1,s.2.1,fun i x h=>?_⟩;obtain⟨a,d,e⟩:=s.2.2 i x h;refine⟨a,d,?_⟩;unfold IntE at e ⊢;refine cell?_same e fun y j=>f _ _ ?_ j;rw[add_blk,add_blk];exact g a d
theorem set_upd{r:Nat}:(h.upd r (true,.cells #[v] el (0,0))).setCell ⟨r,0,none⟩ w=h.upd r (true,.cells #[w] el (0,0)):=by
 funext q;unfold Cells.setCell Cells.upd;by_cases e:q=r
 ·subst e;simp
 ·simp[e]
theorem t_newBox{Q:Leaf->LH->Prop}{h:LH}{k:Nat->T}(hw:isOne w=true)(a:∀ r h2,h.le h2->h2.get.cell? ⟨r,0,none⟩=some w->(k r).wp X Tryz.prog Q h2) :
  (T.new el #[v] fun r=>T.store ((⟨r,0,none⟩ : Addr).add 0) w (k r)).wp X Tryz.prog Q h:=by
 refine Kg fun r hr=>?_;rw[U5];refine Go.TM.t_store (v₀:=v) hw ⟨_,Qn _ _ _⟩ (by unfold Cells.cell?;simp[Cells.upd]) (by unfold Cells.frozen?;simp[Cells.upd]) ?_;refine a r _ ⟨?_,rfl,rfl,rfl⟩ ?_
 ·show h.get.le ((h.get.upd r _).setCell _ _);rw[set_upd];exact Zc _ hr
 ·show ((h.get.upd r _).setCell _ _).cell? _=_;rw[set_upd];unfold Cells.cell?;simp[Cells.upd]
theorem upd_cell{j:Nat}{vs:List Value}(hv:vs[j]?=some v):(h.upd b (true,.cells vs.toArray el (0,0))).cell? ⟨b,j,none⟩=some v:=by
 unfold Cells.cell?;rw[Qn];simpa using hv
theorem BsS.take{h:LH}{p:Option Addr}{n c i:Nat}{l:List Bs}(s:BsS h p n c l)(b:i<=n):BsS h p i c (l.take i):=by
 refine⟨Nat.le_trans b s.1,?_,?_,fun j x a=>?_⟩
 ·rw[List.length_take];have:=s.2.1;omega
 ·rw[List.length_take];have:=s.2.2.1;omega
 ·rw[List.getElem?_take]at a;split at a
  ·exact s.2.2.2 j x a
  ·cases a
theorem landK_B:∀ k,k<7->Tre.landK k=landB k:=by decide
theorem sinceK_B:∀ k,k<7->Tre.sinceK k=sinceB k:=by decide
theorem fill_two(c d:Bool):Instr.fill (fun i=>some (i*1,1)) ((Array.range (2*1)).map ((Value.bool false).cells[·%(Value.bool false).cells.size]!)) #[(0,.bool c),(1,.bool d)].toList=some [Value.bool c,.bool d].toArray:=by
 cases c<;>cases d<;>kernel_rfl
set_option maxHeartbeats 1000000 in
theorem c3737{h₀:LH}{V:Value->Prop}(px:PX X V h₀){hB h':LH}{x:TF}{n:Nat}{f:TC}(S:RSt hB h' b (rdL x f n) f x.events)(hs:h₀.le hB)(hk:Tre.Kinds hB.get)(hw:KWords hB.get)(l:Bs)(hl:l.length<=2^18)(u5:x.events.length<=2^18)(hn:n<=2^18)(hv:lineT (n==0) l=none->V (wrongV ((n+1:Nat):Int))) :
  FW X Tryz.prog 70 #[.pointer (some ⟨b,0,none⟩),.string (str l)] h' fun r h''=>r=.tuple #[]/\∃ y p1 f',lineT (n==0) l=some y/\hB.le p1/\RSt p1 h'' b (rdL (y.put x) f' (n+1)) f' (y.put x).events:=by
 refine w3737 px.ok ?_;have g7:h'.get.cell? ((⟨b,0,none⟩ : Addr).add 7)=some (.int .i64 (n:Int)):=by rw[Qa];exact S.at (j:=0+7) rfl
 refine gZ ?_;refine D7 S 7 (by rw[Qa,Qa]) (by simp[rdL]) rfl fun h1 S1=>?_;rw[show wrap .i64 ((n:Int)+1)=((n+1:Nat):Int) by rw[Qm (by omega) (by omega)];rfl]at S1;have S1:RSt hB h1 b (rdL x f (n+1)) f x.events:=S1;refine t_pu (c3744 l 58 (by omega)) ?_;refine gZ ?_;refine Qs ?_;refine gZ ?_;refine Qs ?_;refine gZ ?_;have n1:h₀.le h1:=LH.le_trans hs S1.le;have l6:=Zp 59 (trimS 59 (cutV 58 l).2.1);obtain⟨j5,k5⟩:=cutV_len 58 l;have tl:=trimS_len 59 (cutV 58 l).2.1;have k0:¬ ((cutV 58 l).2.2=true/\(cutV 58 l).2.1.getLast?=some 59)->V (wrongV ((n+1:Nat):Int)):=fun h=>hv (by rw[Dw];unfold fieldsP;rw[if_neg h];rfl);have s:(cutV 58 l).2.2=true->(cutV 58 l).2.1.getLast?=some 59->lineG (n==0) (cutV 58 l).1 (cut 59 (trimS 59 (cutV 58 l).2.1))=none->V (wrongV ((n+1:Nat):Int)):=fun h1 h2 h=>hv (by rw[Dw];unfold fieldsP;rw[if_pos ⟨h1,h2⟩];exact h);have good:(cutV 58 l).2.2=true->(cutV 58 l).2.1.getLast?=some 59->∀ {y},lineG (n==0) (cutV 58 l).1 (cut 59 (trimS 59 (cutV 58 l).2.1))=some y->lineT (n==0) l=some y:=fun h1 h2 y h=>by rw[Dw];unfold fieldsP;rw[if_pos ⟨h1,h2⟩];exact h
 refine t_newBox (v:=.string ⟨#[]⟩) rfl fun z h2 t gz=>?_;refine t_pu (c3745 _ 59 (by omega)) ?_;refine gZ ?_;refine Qs ?_;refine gZ ?_;generalize (cutV 58 l).1=w at *;generalize (cutV 58 l).2.1=r0 at *;generalize (cutV 58 l).2.2=ok at *;have small:∀ x∈cut 59 (trimS 59 r0),x.length<=2^18:=fun x hx=>by have:=Kk hx;omega
 generalize s3:cut 59 (trimS 59 r0)=fs at *;have S2:=S1.up t;have pn:∀ {hX:LH},h1.le hX->PN X h₀ hX V ⟨b,0,none⟩ ((n+1:Nat):Int):=fun hl=>⟨px,LH.le_trans n1 hl,by
  show Cells.cell? _ _=_;rw[Qa];exact(S1.up hl).at (j:=0+7) rfl⟩
 have e1:(((n+1:Nat):Int)==1)=(n==0):=by
  by_cases h:n=0
  ·subst h;rfl
  ·have:(n==0)=false:=by simpa using h
   rw[this];simp;omega
 have g7:h2.get.cell? ((⟨b,0,none⟩ : Addr).add 7)=some (.int .i64 ((n+1:Nat):Int)):=by rw[Qa];exact S2.at (j:=0+7) rfl
 refine Ja (fun vs h'=>vs=[]/\h'=h2/\ok=true/\r0.getLast?=some 59/\decide (w=wTreaty)=(n==0)) ?_ ?_
 ·refine Qt (fun e=>?_) (fun e=>?_)
  ·refine Qt (fun H=>?_) (fun H=>?_)
   ·have g:r0.getLast?=some 59:=by simpa using H
    refine Qv gz ?_;refine gZ ?_;refine Ga (b:=wTreaty) undS ?_;subst e;refine gZ ?_;refine Kr (pn t) (fun e3=>?_) (fun e3=>?_)
    ·refine s rfl g ?_;unfold lineG;rw[if_pos];intro h3;rw[e1,h3]at e3;simp at e3
    ·refine gZ ?_;refine Qj ⟨rfl,rfl,rfl,g,?_⟩;rw[e1]at e3;simpa using e3
   ·have hb:V (wrongV ((n+1:Nat):Int)):=k0 fun h=>by rw[decide_eq_true h.2]at H;cases H
    subst e;refine Zr ?_ ?_
    ·refine gZ ?_;exact Kr (pn t) (fun _=>hb) (fun e=>by cases e)
    ·refine gZ ?_;exact Kr (pn t) (fun _=>hb) (fun e=>by cases e)
  ·have hb:V (wrongV ((n+1:Nat):Int)):=k0 fun h=>by rw[h.1]at e;cases e
   subst e;refine Zr ?_ ?_
   ·refine gZ ?_;exact Kr (pn t) (fun _=>hb) (fun e=>by cases e)
   ·refine gZ ?_;exact Kr (pn t) (fun _=>hb) (fun e=>by cases e)
 rintro vs _ ⟨rfl,rfl,C,g,M⟩;refine gZ ?_;refine t_grB (hB:=hB) S2.le (c3746 (trimS 59 r0) 59 (by omega)) ?_;rintro _ q0 h3 E G O m3 ⟨p,m,k,rfl,sf⟩;rw[s3]at sf;have S3:=S2.rebase E G O m3;have D:h1.le h3:=LH.le_trans t O;have hm:=sf.2.1;have g7:h3.get.cell? ((⟨b,0,none⟩ : Addr).add 7)=some (.int .i64 ((n+1:Nat):Int)):=by rw[Qa];exact S3.at (j:=0+7) rfl
 have gz:=gz;refine gZ ?_;rw[e1]
 -- numbers e5 read, beside z4 rows b5 grow
 have U:∀ {Q:Leaf->LH->Prop} {K:Value->T} {hC Z:LH} {p:Option Addr} {m k:Nat} {gs:List Bs},q0.le hC->RSt hC Z b (rdL x f (n+1)) f x.events->h1.le Z->BsS hC p m k gs->gs.length<=2^20->(∀ x∈gs,x.length<=2^20)->(numsL gs=none->V (wrongV ((n+1:Nat):Int))) ->
   (∀ ns q d e u h5,numsL gs=some ns->hC.le u->RSt u h5 b (rdL x f (n+1)) f x.events->Z.le h5->InS u q d e (ints ns)->(K (.slice q d e)).wp X Tryz.prog Q h5) ->
   (T.call false 127 #[.pointer (some ⟨b,0,none⟩),.slice p m k] K).wp X Tryz.prog Q Z:=by
  intro Q K hC Z p m k gs lC S4 a6 sg v3 u3 x3 hK;obtain⟨lR,j2⟩:=S4.withR;refine t_grX px.ok lR (c3761 (h₀:=h₀) (V:=V) (ln:=((n+1:Nat):Int)) ⟨px,?_,?_⟩ (sg.le j2) v3 u3 x3) ?_
  ·exact LH.le_trans hs (LH.le_trans E (LH.le_trans lC j2))
  ·show Cells.cell? _ _=_;rw[Qa];exact upd_cell rfl
  rintro _ s5 h5 o2 n2 e0 hd ⟨ns,B,q,d,e,rfl,sI,nw⟩;obtain⟨u,l2,W,keep⟩:=S4.back o2 n2 e0 hd;refine hK ns q d e u h5 B l2 W e0 ⟨sI.1,sl_other sI.2 (fun a ha s0=>?_) keep⟩;have:=nw a ha;rw[s0]at this;rw[show ({ hC with get:=hC.get.upd b (true,.cells (rdL x f (n+1)).toArray 141 (0,0)) }:LH).get b=_ from Qn _ _ _]at this;cases this
 refine Qt (fun e=>?_) (fun e=>?_)
 ·-- z4 first line
  have n0:n=0:=by simpa using e
  rw[e]at M;have y5:w=wTreaty:=by simpa using M
  have I:lineG (n==0) w fs=match numsL fs with|some [a,b,c,d,e,f]=>some (.head a b c d e f)|_=>none:=by
   unfold lineG;rw[M,e];rfl
  refine Kr (pn D) (fun e6=>s C g ?_) fun e6=>?_
  ·rw[I];cases B:numsL fs with
   | none=>rfl
   | some ns =>
    have hlen:=Z6 B;have:ns.length≠6:=by intro h6;rw[hlen,<- hm]at h6;simp[h6]at e6
    match ns,this with
    | [],_ | [_],_ | [_,_],_ | [_,_,_],_ | [_,_,_,_],_ | [_,_,_,_,_],_|_::_::_::_::_::_::_::_,_=>rfl
    | [_,_,_,_,_,_],h=>exact absurd rfl h
  have m6:m=6:=by
   have:(m:Int)=6:=by simpa using e6
   omega
  refine gZ ?_;refine U (LH.le_refl _) S3 D sf (by omega) (fun x hx=>by have:=small x hx;omega) (fun h0=>s C g (by rw[I,h0])) ?_;intro ns q d e' u h5 B lC W b6 sI;have hlen:=Z6 B;obtain⟨a0,a1,a2,a3,a4,a5,rfl⟩ : ∃ a0 a1 a2 a3 a4 a5,ns=[a0,a1,a2,a3,a4,a5]:=by
   have:ns.length=6:=by rw[hlen,<- hm,m6]
   match ns,this with
   | [a0,a1,a2,a3,a4,a5],_=>exact⟨a0,a1,a2,a3,a4,a5,rfl⟩
  have o3:d=6:=sI.2.1;subst o3;have A:=sI.le W.le;obtain⟨qa,rfl,i0⟩:=A.at (i:=0) (x:=(a0:Int)) rfl;obtain⟨_,g1,i1⟩:=A.at (i:=1) (x:=(a1:Int)) rfl;obtain⟨_,z3,i2⟩:=A.at (i:=2) (x:=(a2:Int)) rfl;obtain⟨_,b4,i3⟩:=A.at (i:=3) (x:=(a3:Int)) rfl;obtain⟨_,e4,i4⟩:=A.at (i:=4) (x:=(a4:Int)) rfl;obtain⟨_,j4,i5⟩:=A.at (i:=5) (x:=(a5:Int)) rfl;cases g1;cases z3;cases b4;cases e4;cases j4;rw[Nat.mul_one]at i0 i1 i2 i3 i4 i5;refine gZ ?_;have pa:∀ j,(((⟨b,0,none⟩ : Addr).add 0).add j)=⟨b,j,none⟩:=fun j=>by rw[Qa,Qa];simp
  refine D7 W 0 (pa 0) (by simp[rdL]) rfl fun h6 S6=>?_;refine D7 S6 1 (pa 1) (by simp[rdL]) rfl fun h7 S7=>?_;refine D7 S7 2 (pa 2) (by simp[rdL]) rfl fun h8 S8=>?_;refine D7 S8 3 (pa 3) (by simp[rdL]) rfl fun h9 S9=>?_;refine D7 S9 4 (pa 4) (by simp[rdL]) rfl fun g3 o0=>?_;refine D7 o0 5 (pa 5) (by simp[rdL]) rfl fun l5 z2=>?_;refine D7 z2 6 (pa 6) (by simp[rdL]) rfl fun m5 p0=>?_;refine gZ ?_;refine Qh ⟨rfl,.head a0 a1 a2 a3 a4 a5,u,⟨none,0,0⟩,good C g (by rw[I,B]),LH.le_trans E lC,⟨p0.le,p0.new,p0.cell,Growing.nil⟩⟩
 ·-- an event
  rw[e]at M;have I:lineG (n==0) w fs=(findB w wordsT).bind fun k=>(eventL k fs).map .event:=by
   unfold lineG;rw[M,e];rfl
  have q1:hB.le h3:=LH.le_trans E G;have y0:=hk.le q1.1;have m4:=hw.le q1.1;refine sliceKinds ?_;refine gZ ?_;refine t_pu (c3762 y0 m4 (Qo O.1 gz)) ?_;cases u0:findB w wordsT with
  | none =>
   refine gZ ?_;exact Kr (pn D) (fun _=>s C g (by rw[I,u0];rfl)) (fun e=>absurd e (by decide))
  | some kk =>
  have k7:kk<7:=Yr u0;rw[u0]at I;have I:lineG (n==0) w fs=(eventL kk fs).map .event:=I;refine gZ ?_;refine Kr (pn D) (fun e=>absurd e (by simp)) fun _=>?_;have w5:0<=(kk:Int)/\(kk:Int)<7:=by omega
  have gl:=y0.landAt k7;have gs:=y0.sinceAt k7;refine gZ ?_;rw[landK_B kk k7,sinceK_B kk k7];refine Zg [.bool (landB kk),.bool (sinceB kk)] Tre.undBs Tre.inf4 (by decide) (by decide) (fill_two _ _) ?_;intro rb Z P _ gr;have N:=LH.le_trans D P;have S4:=S3.up P;have k6:=sf.le (LH.le_trans G P);refine gZ ?_;refine Jl (fun mm vs h'=>Z=h'/\∃ i:Nat,vs=[.int .i64 ((2+(if 1<=i/\landB kk=true then 1 else 0)+(if 2<=i/\sinceB kk=true then 1 else 0):Nat):Int),.int .i64 i]/\i<=2/\mm=2-i) (fun vs h'=>Z=h'/\∃ i:Int,vs=[.int .i64 ((fieldsN kk+1:Nat):Int),.int .i64 i]) ⟨rfl,0,rfl,by omega,rfl⟩ ?_ ?_
  ·rintro Y mm vs _ hY ⟨rfl,i,rfl,hi,rfl⟩;refine yJ (fun ei=>?_) (fun ei=>?_)
   ·have w0:i<2:=by omega
    match i,w0 with
    | 0,_ =>
     have g0:Z.get.cell? (Addr.add ⟨rb,0,none⟩ (((0:Nat):Int).toNat*1))=some (.bool (landB kk)):=gr 0 _ rfl;have y1:0<=((0:Nat):Int)/\((0:Nat):Int)<((2:Nat):Int):=by omega
     refine yI (fun F=>?_) (fun F=>?_)
     ·refine Qj (hY 1 _ _ (by omega) ⟨rfl,1,?_,by omega,rfl⟩);rw[if_neg (by omega),if_neg (by omega),if_pos ⟨by omega,F⟩,if_neg (by omega),Qm (by omega) (by omega),Qm (by omega) (by omega)];rfl
     ·refine Qj (hY 1 _ _ (by omega) ⟨rfl,1,?_,by omega,rfl⟩);rw[if_neg (by omega),if_neg (by omega),if_neg (by simp[F]),if_neg (by omega),Qm (by omega) (by omega)];rfl
    | 1,_ =>
     have g0:Z.get.cell? (Addr.add ⟨rb,0,none⟩ (((1:Nat):Int).toNat*1))=some (.bool (sinceB kk)):=gr 1 _ rfl;have y1:0<=((1:Nat):Int)/\((1:Nat):Int)<((2:Nat):Int):=by omega
     refine yI (fun F=>?_) (fun F=>?_)
     ·refine Qj (hY 0 _ _ (by omega) ⟨rfl,2,?_,by omega,rfl⟩);rw[if_neg (show ¬ (2<=1/\sinceB kk=true) by omega),if_pos (show 2<=2/\sinceB kk=true from ⟨by omega,F⟩),Qm (by split<;>omega) (by split<;>omega),Qm (by omega) (by omega)];cases landB kk<;>rfl
     ·refine Qj (hY 0 _ _ (by omega) ⟨rfl,2,?_,by omega,rfl⟩);rw[if_neg (show ¬ (2<=1/\sinceB kk=true) by omega),if_neg (show ¬ (2<=2/\sinceB kk=true) by simp[F]),Qm (by omega) (by omega)];cases landB kk<;>rfl
   ·have w0:i=2:=by omega
    subst w0;refine gH ⟨rfl,((2:Nat):Int),?_⟩;unfold fieldsN;cases landB kk<;>cases sinceB kk<;>rfl
  rintro vs _ ⟨rfl,i,rfl⟩;refine gZ ?_;refine Kr (pn N) (fun ef=>s C g ?_) fun ef=>?_
  ·rw[I,eventL_len]
   ·rfl
   ·intro hc;rw[<- hc,<- hm]at ef;simp at ef
  have y3:m=fieldsN kk+1:=by
   have:(m:Int)=((fieldsN kk+1:Nat):Int):=by simpa using ef
   omega
  have q5:2<=fieldsN kk/\fieldsN kk<=3:=by
   have:=Uu kk k7;unfold fieldsN;revert this;cases landB kk<;>cases sinceB kk<;>simp
  refine gZ ?_;have eM:wrap .i64 (((fieldsN kk+1:Nat):Int)-1)=(fieldsN kk:Int):=by rw[Qm (by omega) (by omega)];omega
  rw[eM];have x5:=sf.1;refine J7 undSs infS (i:=fieldsN kk) (by omega) ?_;refine gZ ?_;have q3:fs.dropLast=fs.take (fieldsN kk):=by rw[List.dropLast_eq_take,<- hm,y3];rfl
  have sP:BsS q0 p (fieldsN kk) k fs.dropLast:=by rw[q3];exact BsS.take sf (by omega)
  refine U (LH.le_refl _) S4 N sP (by rw[List.length_dropLast];omega) (fun x hx=>by have:=small x (List.dropLast_subset _ hx);omega) (fun h0=>s C g (by rw[I,eventL_none1 h0];rfl)) ?_;intro ns q d e' u h5 B lC W e0 sI;have hlen:ns.length=fieldsN kk:=by have:=Z6 B;rw[List.length_dropLast]at this;omega
  have hd:d=fieldsN kk:=by have:=sI.2.1;unfold ints at this;rw[List.length_map]at this;omega
  have A:=sI.le W.le;have j1:=List.getElem?_eq_getElem (show 0<ns.length by omega);have l1:=List.getElem?_eq_getElem (show 1<ns.length by omega);have m1:=List.getElem?_eq_getElem (show ns.length-1<ns.length by omega);generalize ns[0]=x0 at j1;generalize ns[1]=x1 at l1;generalize ns[ns.length-1]=xL at m1;have up:∀ {i y:Nat},ns[i]?=some y->(ints ns)[i]?=some (y:Int):=fun h=>by unfold ints;rw[List.getElem?_map,h];rfl
  obtain⟨qa,rfl,i0⟩:=A.at (up j1);obtain⟨_,g1,i1⟩:=A.at (up l1);obtain⟨_,k4,iL⟩:=A.at (up m1);cases g1;cases k4;rw[Nat.mul_one]at i0 i1;have b0:(0:Int)<=0/\(0:Int)<(d:Int):=by omega
  have b1:(0:Int)<=1/\(1:Int)<(d:Int):=by omega
  refine gZ ?_;have eD:wrap .i64 ((d:Int)-1)=((ns.length-1:Nat):Int):=by rw[Qm (by omega) (by omega)];omega
  rw[eD];have bL:0<=((ns.length-1:Nat):Int)/\((ns.length-1:Nat):Int)<(d:Int):=by omega
  have z5:h5.get.cell? (qa.add (((ns.length-1:Nat):Int).toNat*1))=some (.int .i64 (xL:Int)):=iL;refine Ja (fun vs h'=>h5=h'/\vs=[.int .i64 (kk:Int),.int .i64 (x0:Int),.int .i64 (if landB kk then (x1:Int) else 0),.slice none 0 0,.int .i64 0]) ?_ ?_
  ·refine Qt (fun F=>?_) (fun F=>?_)
   ·refine gZ ?_;refine Qj ⟨rfl,?_⟩;rw[F];rfl
   ·refine Qj ⟨rfl,?_⟩;rw[F];rfl
  rintro vs _ ⟨rfl,rfl⟩;refine gZ ?_;refine Ja (fun vs h'=>h5=h'/\vs=[.int .i64 (kk:Int),.int .i64 (x0:Int),.int .i64 (if landB kk then (x1:Int) else 0),.slice none 0 0,.int .i64 (if sinceB kk then (xL:Int) else 0)]) ?_ ?_
  ·refine Qt (fun F=>?_) (fun F=>?_)
   ·refine gZ ?_;refine Qj ⟨rfl,?_⟩;rw[F];rfl
   ·refine Qj ⟨rfl,?_⟩;rw[F];rfl
  rintro vs _ ⟨rfl,rfl⟩;refine gZ ?_;generalize k3:(if landB kk then (x1:Int) else 0)=Ld;generalize l3:(if sinceB kk then (xL:Int) else 0)=Sn;have l0:fieldsN kk<fs.length:=by omega
  have hz:=List.getElem?_eq_getElem l0;have z1:=List.getElem_mem l0;generalize fs[fieldsN kk]=zz at hz z1;have J:fs.getLast?=some zz:=by rw[List.getLast?_eq_getElem?,show fs.length-1=fieldsN kk by omega];exact hz
  have y2:=small zz z1;obtain⟨pz,rfl,b3⟩:=BsS.at (BsS.le (LH.le_trans lC W.le) sf) hz;have bz:0<=(fieldsN kk:Int)/\(fieldsN kk:Int)<(m:Int):=by omega
  have o1:h5.get.cell? (pz.add ((fieldsN kk:Int).toNat*1))=some (.string (str zz)):=b3;have u2:=LH.le_trans N e0;refine Ja (fun vs h'=>∃ (q2:Option Addr) (d2 H:Nat) (hD:LH) (ms:List Nat),vs=[.int .i64 (kk:Int),.int .i64 (x0:Int),.int .i64 Ld,.slice q2 d2 H,.int .i64 Sn]/\q0.le hD/\RSt hD h' b (rdL x f (n+1)) f x.events/\InS hD q2 d2 H (ints ms)/\listL zz=some ms) ?_ ?_
  ·refine gZ ?_;refine Qv o1 ?_;refine t_neB (b:=[]) undS ?_;refine yI (fun ez=>?_) (fun ez=>?_)
   ·have g2:zz≠[]:=by simpa using ez
    have L:listL zz=numsL (cut 44 zz):=by unfold listL;rw[if_neg g2]
    have tz:=Zp 44 zz;refine t_grB (hB:=u) W.le (c3746 zz 44 (by omega)) ?_;rintro _ o5 h6 R x2 m0 n3 ⟨p2,m2,k2,rfl,s2⟩;have S6:=W.rebase R x2 m0 n3;refine gZ ?_;refine U (LH.le_trans lC R) S6 (LH.le_trans u2 m0) s2 (by omega) (fun x hx=>by have:=Kk hx;omega) (fun h0=>s C g (by rw[I,Hk J (by rw[L,h0])];rfl)) ?_;intro ms q2 d2 H j3 h7 z0 s4 S7 j6 j0;refine gZ ?_;refine Qj ⟨q2,d2,H,j3,ms,rfl,LH.le_trans lC (LH.le_trans R s4),S7,j0,by rw[L,z0]⟩
   ·have o4:zz=[]:=by simpa using ez
    subst o4;refine Qj ⟨none,0,0,u,[],rfl,lC,W,InS.nil,rfl⟩
  rintro vs h7 ⟨q2,d2,H,hD,ms,rfl,lD,S7,j0,z0⟩;have u1:eventL kk fs=some ⟨kk,x0,Ld,ints ms,Sn⟩:=by rw[eventL_of J B z0,numsOf_of k7 hlen j1 l1 m1,k3,l3]
  have y4:lineG (n==0) w fs=some (.event ⟨kk,x0,Ld,ints ms,Sn⟩):=by rw[I,u1];rfl
  have pa:∀ j,(((⟨b,0,none⟩ : Addr).add 0).add j)=⟨b,j,none⟩:=fun j=>by rw[Qa,Qa];simp
  have g6:h7.get.cell? (((⟨b,0,none⟩ : Addr).add 0).add 6)=some (.slice f.p f.n f.c):=by rw[pa];exact S7.at rfl
  have v5:=S7.ev.count EventEnc.len (by omega);refine gZ ?_;refine Zg [.int .i64 (kk:Int),.int .i64 (x0:Int),.int .i64 Ld,.slice q2 d2 H,.int .i64 Sn] Tre.undEvs Tre.infEv (by decide) (by decide) (by kernel_rfl) ?_;intro r8 h8 u4 _ l4;have S8:=S7.up u4;have g6:h8.get.cell? (((⟨b,0,none⟩ : Addr).add 0).add 6)=some (.slice f.p f.n f.c):=by rw[pa];exact S8.at rfl
  refine gZ ?_;refine Db (h₀:=hD) (Enc:=EventEnc hD.get) (⟨kk,x0,Ld,ints ms,Sn⟩ : Ev) [.int .i64 (kk:Int),.int .i64 (x0:Int),.int .i64 Ld,.slice q2 d2 H,.int .i64 Sn] rfl rfl Tre.undEvs Tre.infEv rfl (by omega) (by omega) S8.ev S8.le ⟨q2,d2,H,rfl,j0.1,j0.2⟩ rfl l4 (by intro w hw;simp at hw;rcases hw with rfl|rfl|rfl|rfl|rfl<;>rfl) ?_;intro p' c' h9 x4 q4 g9;have S9:RSt hD h9 b (rdL x f (n+1)) ⟨p',f.n+1,c'⟩ (x.events++[⟨kk,x0,Ld,ints ms,Sn⟩]):=⟨x4,S8.new,q4 b _ (fun a ha s0=>by
   obtain⟨ws,o,_⟩:=S8.ev.row;rcases o.2 with⟨h1,_⟩|⟨b2,cs,h1,h3,_⟩
   ·rw[h1]at ha;cases ha
   ·rw[h1]at ha;cases ha;rw[show b2=b from s0,S8.cell]at h3;cases h3) S8.cell,g9⟩
  refine gZ ?_;refine D7 S9 6 (by rw[pa,Qa]) (by simp[rdL]) rfl fun g3 o0=>?_;refine gZ ?_;exact Qh ⟨rfl,.event ⟨kk,x0,Ld,ints ms,Sn⟩,hD,⟨p',f.n+1,c'⟩,good C g y4,LH.le_trans E lD,o0⟩
end Go.Y.Txt
end
section
namespace Go.Y.Txt
open Go.TM.Tp
noncomputable section
def sA:Code->Code | .seq a _=>a|c=>c
def sB:Code->Code | .seq _ b=>b|c=>c
def sOps:Code->Array Oper | .region _ o _=>o|_=>#[]
def sAsq:Code->Code | .block _ (.rangeFunc _ _ a _)=>a|c=>c
def sBd:Code->Code | .block _ (.rangeFunc _ _ _ b)=>b|c=>c
def Wo:Code:=(Tryz.f18.body).getD .skip
def pr0:=sOps (sA Wo)
def pB:=sA (sB Wo)
def pr3:=sOps (sA (sB (sB Wo)))
def pr4:=sOps (sA (sB (sB (sB Wo))))
def pL:=sA (sB (sB (sB (sB Wo))))
def pPost:=sB (sB (sB (sB (sB Wo))))
def pr5:=sOps (sA pL)
def pAsq:=sAsq (sB pL)
def pBd:=sBd (sB pL)
def pRest:Code:=sB ((Tryz.f69.body).getD .skip)
def pC:Ctx:={ P:=Tryz.prog,priv:=[5],loops:=[{ id:=0,slots:=[],ro:=[5],outs:=[],ps:=[.cell .str] }],joins:=[],kd:=.normal }
variable {Q:Value->LH->Prop}{t:ByteArray}{r r1 r2 r3:Nat}{n:Int}{v:Value}
theorem parse_catch{t:Bs}{h:LH}(a:(catchT pC [] [] Tryz.f18 Tryz.f69 69 6 0 1 pr0 pr3 pr4 pr5 pB pRest pAsq pBd pPost #[17] (.tmp 16) (.tmp 14) Q [.string (str t)]).wp XT Tryz.prog (Qc Q) h):FW XT Tryz.prog 18 #[.string (str t)] h Q :=
 fw_catch (C:=pC) (fd:=Tryz.f18) (fg:=Tryz.f69) (g:=69) (i0:=0) (i3:=3) (i4:=4) (i5:=5) (id:=0) (n4:=1) (ig:=0) (d:=6) (r0:=pr0) (r3:=pr3) (r4:=pr4) (r5:=pr5) (B:=pB) (post:=pPost) (asq:=pAsq) (bd:=pBd) (restg:=pRest) (ps:=#[17]) (fo:=.tmp 16) (x:=.tmp 14) (args:=[.string (str t)])
  rfl (by kernel_rfl) (by kernel_rfl) (by kernel_rfl) (by kernel_rfl) (od:=pr4[1]!) (by kernel_rfl) (ats:=#[]) (by kernel_rfl) (by kernel_rfl) (fun _=>by kernel_rfl) (by kernel_rfl) (by kernel_rfl) (og:=(sOps (sA ((Tryz.f69.body).getD .skip)))[0]!) (by kernel_rfl) (atg:=#[]) (by kernel_rfl) (by kernel_rfl) (fun _=>by kernel_rfl) (by kernel_rfl) (by kernel_rfl) a
def readT(r r1 r2:Nat):T:=.loadI .i64 (Addr.add ⟨r,0,none⟩ 0) fun a=>.loadI .i64 (Addr.add ⟨r,0,none⟩ 1) fun b=>.loadI .i64 (Addr.add ⟨r,0,none⟩ 2) fun c=>.loadI .i64 (Addr.add ⟨r,0,none⟩ 3) fun d=>.loadI .i64 (Addr.add ⟨r,0,none⟩ 4) fun e=>.loadI .i64 (Addr.add ⟨r,0,none⟩ 5) fun f=>.loadS (Addr.add ⟨r,0,none⟩ 6) fun p n k =>
 .loadI .i64 ⟨r1,0,none⟩ fun l=>.loadI .i64 ⟨r2,0,none⟩ fun w=>.leaf (.ret (.tuple #[.agg #[.int .i64 a,.int .i64 b,.int .i64 c,.int .i64 d,.int .i64 e,.int .i64 f,.slice p n k],.int .i64 l,.int .i64 w]))
def zeroT(r r1 r2:Nat)(l w:Int)(k:T):T:=.store (Addr.add ⟨r,0,none⟩ 0) (.int .i64 0) (.store (Addr.add ⟨r,0,none⟩ 1) (.int .i64 0) (.store (Addr.add ⟨r,0,none⟩ 2) (.int .i64 0) (.store (Addr.add ⟨r,0,none⟩ 3) (.int .i64 0) (.store (Addr.add ⟨r,0,none⟩ 4) (.int .i64 0) (.store (Addr.add ⟨r,0,none⟩ 5) (.int .i64 0) (.store (Addr.add ⟨r,0,none⟩ 6) (.slice none 0 0)
 (.store (Addr.add ⟨r1,0,none⟩ 0) (.int .i64 l) (.store (Addr.add ⟨r2,0,none⟩ 0) (.int .i64 w) k))))))))
def zeroF:Array Value:=#[.int .i64 0,.int .i64 0,.int .i64 0,.int .i64 0,.int .i64 0,.int .i64 0,.slice none 0 0]
def zeroR:Array Value:=#[.int .i64 0,.int .i64 0,.int .i64 0,.int .i64 0,.int .i64 0,.int .i64 0,.slice none 0 0,.int .i64 0]
def cloV(r r1 r2:Nat):Value:=.func (.func 69) #[] #[.pointer (some ⟨r,0,none⟩),.pointer (some ⟨r1,0,none⟩),.pointer (some ⟨r2,0,none⟩)]
def pEnv(t:ByteArray)(r r1 r2 r3:Nat)(n:Int)(v:Value):Env :=
  [(16,.val v),(15,.val (.string t)),(14,.val (cloV r r1 r2)),(24576,.val (.pointer (some ⟨r3,0,none⟩))),(5,.pp 5 0),(24576,.val (.pointer none)),(13,.val (.pointer (some ⟨r3,0,none⟩))),(12,.val (.agg zeroR)),(10,.val (.bool (decide (n>60000)))),(9,.val (.int .i64 n)),(8,.val (.string t)),
   (4,.val (.pointer (some ⟨r2,0,none⟩))),(3,.val (.pointer (some ⟨r1,0,none⟩))),(2,.val (.pointer (some ⟨r,0,none⟩))),(0,.val (.string t))]
theorem parse_tree:catchT pC [] [] Tryz.f18 Tryz.f69 69 6 0 1 pr0 pr3 pr4 pr5 pB pRest pAsq pBd pPost #[17] (.tmp 16) (.tmp 14) Q [.string t] =
  T.new 38 zeroF fun r=>.new 3 #[.int .i64 0] fun r1=>.new 29 #[.int .i64 0] fun r2=>.sem false (Builtin.len_ #[9] 3 #[.string t]) fun v=>T.unI .i64 v fun n=>bif decide (n>60000) then zeroT r r1 r2 0 2 (readT r r1 r2)
   else .new 141 zeroR fun r3=>.mem (fun _=>∃ cap:List Value,cloV r r1 r2=.func (.func 69) #[] cap.toArray) (.call false 47 #[.string t] fun v =>
    .mem (fromLoop pC [] [] Tryz.f18 Tryz.f69 69 6 0 pRest pAsq pBd pPost #[17] (.tmp 16) Q (pEnv t r r1 r2 r3 n v) (cloV r r1 r2)) (.leaf (.again []))):=by
 kernel_rfl
def pE2(t:ByteArray)(r r1 r2 r3:Nat)(n:Int)(v:Value):Env:=stays (wrOf #[17] pAsq pBd) (appL [5] []) (pEnv t r r1 r2 r3 n v)
theorem each_tree{a:LExit->Env->T}:rfT pC 0 (.tmp 16) #[17] pAsq pBd (pEnv t r r1 r2 r3 n v) a =
  T.each v [] (fun xs vs=>T.unCons xs fun w b=>T.unStr w fun s=>T.unNil b (T.unNil vs (.call false 49 #[.string s,.string ⟨#[10]⟩] fun w=>T.unStr w fun s=>T.nd (.pointer (some ⟨r3,0,none⟩)) (.call false 70 #[.pointer (some ⟨r3,0,none⟩),.string s] fun w=>T.unTup w fun l=>T.unNil l (.leaf (.again []))))))
   (fun vs=>T.unNil vs (a .fall (pE2 t r r1 r2 r3 n v))) (fun vs=>T.unNil vs (a .fall (pE2 t r r1 r2 r3 n v))) (fun vs=>T.unNil vs (a .ret (pE2 t r r1 r2 r3 n v))) (outT (fun j vs=>T.unNil vs (a (.exit j) (pE2 t r r1 r2 r3 n v))) []):=by
 kernel_rfl
def putT(r r1 r2:Nat)(a b c d e f:Int)(p:Option Addr)(m k:Nat)(K:T):T:=.store (Addr.add ⟨r,0,none⟩ 0) (.int .i64 a) (.store (Addr.add ⟨r,0,none⟩ 1) (.int .i64 b) (.store (Addr.add ⟨r,0,none⟩ 2) (.int .i64 c) (.store (Addr.add ⟨r,0,none⟩ 3) (.int .i64 d) (.store (Addr.add ⟨r,0,none⟩ 4) (.int .i64 e) (.store (Addr.add ⟨r,0,none⟩ 5) (.int .i64 f) (.store (Addr.add ⟨r,0,none⟩ 6) (.slice p m k)
 (.store (Addr.add ⟨r1,0,none⟩ 0) (.int .i64 0) (.store (Addr.add ⟨r2,0,none⟩ 0) (.int .i64 0) K))))))))
def loadT(r3:Nat)(K:Int->Int->Int->Int->Int->Int->Option Addr->Nat->Nat->T):T:=.someA (some ⟨r3,0,none⟩) fun a=>.loadI .i64 ((a.add 0).add 0) fun x0=>.loadI .i64 ((a.add 0).add 1) fun x1=>.loadI .i64 ((a.add 0).add 2) fun x2=>.loadI .i64 ((a.add 0).add 3) fun x3=>.loadI .i64 ((a.add 0).add 4) fun x4=>.loadI .i64 ((a.add 0).add 5) fun x5=>.loadS ((a.add 0).add 6) fun p m k=>K x0 x1 x2 x3 x4 x5 p m k
theorem post_tree{K:Option AV->Option AV->Option AV->LH->Prop}:postT pC pPost (fun e=>K (slotA e 2) (slotA e 3) (slotA e 4)) .fall (pE2 t r r1 r2 r3 n v) =
  T.someA (some ⟨r3,0,none⟩) fun a=>.loadI .i64 (a.add 7) fun m=>bif m==0 then zeroT r r1 r2 0 3 (.mem (K (some (.val (.pointer (some ⟨r,0,none⟩)))) (some (.val (.pointer (some ⟨r1,0,none⟩)))) (some (.val (.pointer (some ⟨r2,0,none⟩))))) (.leaf (.ret undef)))
   else loadT r3 fun x0 x1 x2 x3 x4 x5 p m k=>.call false 64 #[.agg #[.int .i64 x0,.int .i64 x1,.int .i64 x2,.int .i64 x3,.int .i64 x4,.int .i64 x5,.slice p m k]] fun v=>T.unI .i64 v fun w =>
    bif w != 0 then zeroT r r1 r2 0 w (.mem (K (some (.val (.pointer (some ⟨r,0,none⟩)))) (some (.val (.pointer (some ⟨r1,0,none⟩)))) (some (.val (.pointer (some ⟨r2,0,none⟩))))) (.leaf (.ret undef)))
    else loadT r3 fun x0 x1 x2 x3 x4 x5 p m k=>putT r r1 r2 x0 x1 x2 x3 x4 x5 p m k (.mem (K (some (.val (.pointer (some ⟨r,0,none⟩)))) (some (.val (.pointer (some ⟨r1,0,none⟩)))) (some (.val (.pointer (some ⟨r2,0,none⟩))))) (.leaf (.ret undef))):=by
 kernel_rfl
theorem res_tree{e:Env}(h2:slotA e 2=some (.val (.pointer (some ⟨r,0,none⟩))))(h3:slotA e 3=some (.val (.pointer (some ⟨r1,0,none⟩))))(c:slotA e 4=some (.val (.pointer (some ⟨r2,0,none⟩)))):resT pC e Tryz.f18.results.toList retL=readT r r1 r2:=by
 have a:resT pC e Tryz.f18.results.toList retL=resT pC [(2,.val (.pointer (some ⟨r,0,none⟩))),(3,.val (.pointer (some ⟨r1,0,none⟩))),(4,.val (.pointer (some ⟨r2,0,none⟩)))] Tryz.f18.results.toList retL:=by
  rw[show Tryz.f18.results.toList=[.cell 2 38,.cell 3 3,.cell 4 29] by kernel_rfl];simp only[resT,h2,h3,c];rfl
 have b:resT pC [(2,.val (.pointer (some ⟨r,0,none⟩))),(3,.val (.pointer (some ⟨r1,0,none⟩))),(4,.val (.pointer (some ⟨r2,0,none⟩)))] Tryz.f18.results.toList retL=readT r r1 r2:=by kernel_rfl
 exact a.trans b
theorem vals_slots:valsOf (pEnv t r r1 r2 r3 n v) Tryz.f18.results.toList=[(2,.val (.pointer (some ⟨r,0,none⟩))),(3,.val (.pointer (some ⟨r1,0,none⟩))),(4,.val (.pointer (some ⟨r2,0,none⟩)))]:=by
 kernel_rfl
def cloT(v:Value)(a b c:Nat):T:=.sem false (Sem.bind (eqGuard .eql 20 (.tmp 6) (.const .nilIface) v .nilIface) fun _=>binOp .eql 20 v .nilIface) fun w=>T.unB w fun y=>bif y then .leaf (.ret (.tuple #[]))
 else .sem false (Instr.typeAssert v 20 142 true) fun w=>T.unTup w fun l=>T.unCons l fun w vs=>T.unI .i64 w fun n=>T.unCons vs fun w vs=>T.unB w fun y=>T.unNil vs (bif y then zeroT a b c n 3 (.leaf (.ret (.tuple #[]))) else .fail)
theorem clo_tree{a b c:Nat}:closT (cloC pC [] []) 6 pRest [.pointer (some ⟨a,0,none⟩),.pointer (some ⟨b,0,none⟩),.pointer (some ⟨c,0,none⟩)] v=cloT v a b c:=by
 kernel_rfl
end
end Go.Y.Txt
end
section
namespace Go.Y.Tre
open Go.TM.Tr
attribute [local irreducible] T.wp CV FWK
variable {x:TF}{h:LH}{f:TC}{land day item:Int}
theorem not_and_false{a b:Bool}(h:a=false):(a&&b)=false:=by rw[h];rfl
def numsB(x:TF):Bool:=inB x.items 0 5&&(inB x.lands 1 3&&(dayB x.start&&(dayB x.depend&&(dayB x.refuse&&dayB x.turn))))
theorem U9(h:numsB x=true):IsI (x.lands-1)/\IsI (x.items-1):=by
 simp[numsB,inB]at h;unfold IsI;omega
theorem Jn(h:numsB x=false):checkT x=1:=by unfold checkT;exact if_pos h
theorem checkT_many(h:numsB x=true)(h2:10<x.events.length):checkT x=2:=by
 unfold checkT;rw[if_neg (by unfold numsB at h;rw[h];simp),if_pos h2]
theorem checkT_each(h:numsB x=true)(h2:¬ 10<x.events.length):checkT x=firstT (fun _ e=>eventT x e) 0 x.events:=by
 unfold checkT;rw[if_neg (by unfold numsB at h;rw[h];simp),if_neg h2]
theorem check_is(h:checkT x=0):IsI (x.lands-1)/\IsI (x.items-1):=by
 have:=Zq h;unfold IsI;omega
theorem c2021(v:Kinds h.get)(s:TreatyR h.get f x):Pu Tryz.prog 64 #[treatyV f x] h (.int .i64 (checkT x)):=by
 refine w2021 Qr ?_;have F:=s.2.1;have hb:=s.2.2.1;refine Ja (fun vs h'=>vs=[.int .i64 0]/\numsB x=true/\h=h') ?_ ?_
 ·refine t_pu (c2052 _ _ _) ?_;refine yI (fun e=>?_) (fun j=>?_)
  ·refine gI ?_;refine gZ ?_;exact Qh ⟨by rw[Jn (not_and_false (by simpa using e))],rfl⟩
  have j:inB x.items 0 5=true:=by simpa using j
  refine t_pu (c2052 _ _ _) ?_;refine yI (fun e=>?_) (fun g=>?_)
  ·refine gI ?_;refine gZ ?_;have e:inB x.lands 1 3=false:=by simpa using e
   exact Qh ⟨by rw[Jn (by simp[numsB,e])],rfl⟩
  have g:inB x.lands 1 3=true:=by simpa using g
  refine t_pu (c2053 _) ?_;refine yI (fun e=>?_) (fun k=>?_)
  ·refine gI ?_;refine gZ ?_;have e:dayB x.start=false:=by simpa using e
   exact Qh ⟨by rw[Jn (by simp[numsB,e])],rfl⟩
  have k:dayB x.start=true:=by simpa using k
  refine t_pu (c2053 _) ?_;refine yI (fun e=>?_) (fun l=>?_)
  ·refine gI ?_;refine gZ ?_;have e:dayB x.depend=false:=by simpa using e
   exact Qh ⟨by rw[Jn (by simp[numsB,e])],rfl⟩
  have l:dayB x.depend=true:=by simpa using l
  refine t_pu (c2053 _) ?_;refine yI (fun e=>?_) (fun o=>?_)
  ·refine gI ?_;refine gZ ?_;have e:dayB x.refuse=false:=by simpa using e
   exact Qh ⟨by rw[Jn (by simp[numsB,e])],rfl⟩
  have o:dayB x.refuse=true:=by simpa using o
  refine t_pu (c2053 _) ?_;refine yI (fun e=>?_) (fun p=>?_)
  ·refine gI ?_;refine gZ ?_;have e:dayB x.turn=false:=by simpa using e
   exact Qh ⟨by rw[Jn (by simp[numsB,e])],rfl⟩
  have p:dayB x.turn=true:=by simpa using p
  exact Qj ⟨rfl,by simp[numsB,j,g,k,l,o,p],rfl⟩
 rintro vs _ ⟨rfl,b,rfl⟩;refine yJ (fun e=>?_) (fun e=>?_)
 ·exact Qh ⟨by rw[checkT_many b (by omega)],rfl⟩
 have r:=checkT_each b (by omega);refine Je (fun t vs h'=>h=h'/\∃ i:Nat,vs=[.int .i64 0,.int .i64 i]/\i<=f.n/\t=f.n-i/\checkT x=firstT (fun _ e=>eventT x e) i (x.events.drop i)) ⟨rfl,0,rfl,Nat.zero_le _,rfl,r⟩ ?_;rintro Y t vs _ u ⟨rfl,i,rfl,E,rfl,hc⟩;refine yJ (fun g=>?_) (fun g=>?_)
 ·obtain⟨y,a,w,D,z,A,B,⟨q,m,c,C,_,g5⟩,g4⟩:=s.2.at (i:=i) (by omega);rw[Jy w,firstT]at hc;refine gZ ?_;refine t_pu (c2054 v (f:=f) (x:=x) (e:=y) (U9 b).1 (U9 b).2 g5) ?_;refine yI (fun d=>?_) (fun d=>?_)
  ·refine gZ ?_;rw[if_pos (by simpa using d)]at hc;exact Qh ⟨by rw[hc],rfl⟩
  ·rw[if_neg (by simpa using d)]at hc;refine Qj (u (f.n-(i+1)) _ _ (by omega) ⟨rfl,i+1,?_,by omega,rfl,hc⟩);rw[Qm (by omega) (by omega)];rfl
 ·refine gZ ?_;rw[List.drop_eq_nil_of_le (by omega),firstT]at hc;exact Qh ⟨by rw[hc],rfl⟩
def askedT(x:TF)(land:Int):Int:=if checkT x≠0 then checkT x else if inB land 0 (x.lands-1)=false then 6 else 0
def Qy(x:TF)(land day:Int):Int:=if askedT x land≠0 then askedT x land else if dayB day then 0 else 1
def Q9(x:TF)(land item:Int):Int:=if askedT x land≠0 then askedT x land else if inB item 0 (x.items-1) then 0 else 6
def Jr(x:TF)(land item day:Int):Int:=if Q9 x land item≠0 then Q9 x land item else if dayB day then 0 else 1
theorem G5(h:askedT x land=0):checkT x=0/\inB land 0 (x.lands-1)=true:=by
 unfold askedT at h;split at h
 ·rename_i h1;exact absurd h h1
 ·rename_i h1;split at h
  ·cases h
  ·rename_i h2;exact⟨by simpa using h1,by simpa using h2⟩
theorem H5(h:Qy x land day=0):askedT x land=0/\dayB day=true:=by
 unfold Qy at h;split at h
 ·rename_i h1;exact absurd h h1
 ·rename_i h1;split at h
  ·rename_i h2;exact⟨by simpa using h1,h2⟩
  ·cases h
theorem askedItem_ok(h:Q9 x land item=0):askedT x land=0/\inB item 0 (x.items-1)=true:=by
 unfold Q9 at h;split at h
 ·rename_i h1;exact absurd h h1
 ·rename_i h1;split at h
  ·rename_i h2;exact⟨by simpa using h1,h2⟩
  ·cases h
theorem askedAll_ok(h:Jr x land item day=0):Q9 x land item=0/\dayB day=true:=by
 unfold Jr at h;split at h
 ·rename_i h1;exact absurd h h1
 ·rename_i h1;split at h
  ·rename_i h2;exact⟨by simpa using h1,h2⟩
  ·cases h
theorem c2079(b:Kinds h.get)(c:TreatyR h.get f x)(land:Int):Pu Tryz.prog 159 #[treatyV f x,land] h (.int .i64 (askedT x land)):=by
 refine w2079 Qr ?_;refine t_pu (c2021 b c) ?_;refine yI (fun e=>?_) (fun e=>?_)
 ·exact Qh ⟨by rw[askedT,if_pos (by simpa using e)],rfl⟩
 have e:checkT x=0:=by simpa using e
 have a:=check_is e;rw[Qm a.1.1 a.1.2];refine t_pu (c2052 _ _ _) ?_;refine yI (fun d=>?_) (fun d=>?_)
 ·exact Qh ⟨by rw[askedT,if_neg (by simp[e]),if_pos (by simpa using d)],rfl⟩
 ·exact Qh ⟨by rw[askedT,if_neg (by simp[e]),if_neg (by simp at d;simp[d])],rfl⟩
theorem c2063(a:Kinds h.get)(b:TreatyR h.get f x)(land day:Int):Pu Tryz.prog 111 #[treatyV f x,land,day] h (.int .i64 (Qy x land day)):=by
 refine w2063 Qr ?_;refine t_pu (c2079 a b land) ?_;refine yI (fun e=>?_) (fun e=>?_)
 ·exact Qh ⟨by rw[Qy,if_pos (by simpa using e)],rfl⟩
 have e:askedT x land=0:=by simpa using e
 refine t_pu (c2053 _) ?_;refine yI (fun d=>?_) (fun d=>?_)
 ·exact Qh ⟨by rw[Qy,if_neg (by simp[e]),if_pos d,e],rfl⟩
 ·exact Qh ⟨by rw[Qy,if_neg (by simp[e]),if_neg (by simp[d])],rfl⟩
theorem c2058(b:Kinds h.get)(c:TreatyR h.get f x)(land item:Int):Pu Tryz.prog 113 #[treatyV f x,land,item] h (.int .i64 (Q9 x land item)):=by
 refine w2058 Qr ?_;refine t_pu (c2079 b c land) ?_;refine yI (fun e=>?_) (fun e=>?_)
 ·exact Qh ⟨by rw[Q9,if_pos (by simpa using e)],rfl⟩
 have e:askedT x land=0:=by simpa using e
 have a:=check_is (G5 e).1;rw[Qm a.2.1 a.2.2];refine t_pu (c2052 _ _ _) ?_;refine yI (fun d=>?_) (fun d=>?_)
 ·exact Qh ⟨by rw[Q9,if_neg (by simp[e]),if_pos d,e],rfl⟩
 ·exact Qh ⟨by rw[Q9,if_neg (by simp[e]),if_neg (by simp[d])],rfl⟩
theorem c2066(a:Kinds h.get)(b:TreatyR h.get f x)(land item day:Int):Pu Tryz.prog 116 #[treatyV f x,land,item,day] h (.int .i64 (Jr x land item day)):=by
 refine w2066 Qr ?_;refine t_pu (c2058 a b land item) ?_;refine yI (fun e=>?_) (fun e=>?_)
 ·exact Qh ⟨by rw[Jr,if_pos (by simpa using e)],rfl⟩
 have e:Q9 x land item=0:=by simpa using e
 refine t_pu (c2053 _) ?_;refine yI (fun d=>?_) (fun d=>?_)
 ·exact Qh ⟨by rw[Jr,if_neg (by simp[e]),if_pos d,e],rfl⟩
 ·exact Qh ⟨by rw[Jr,if_neg (by simp[e]),if_neg (by simp[d])],rfl⟩
end Go.Y.Tre
end
section
namespace Go.TM.Tp
variable {X:XP}{P:Program}{Q:Leaf->LH->Prop}{h:LH}
theorem Yi{p:LH->Prop}{k:T}(h1:p h)(h2:k.wp X P Q h):(T.mem p k).wp X P Q h:=⟨h1,h2⟩
theorem Ub{l:Leaf}(h1:Q l h):(T.leaf l).wp X P Q h:=h1
theorem t_assertI{K:Value->T}{b asserted:TypeId}{v:Value}(hu:P.underlying asserted=some (.int .i64))(a:(K (.tuple #[v,.bool true])).wp X P Q h):(T.sem false (Instr.typeAssert (.iface asserted v) b asserted true) K).wp X P Q h:=by
 refine Jh (A:=fun w h'=>w=.tuple #[v,.bool true]/\h'=h.get) ?_ (by rintro w h' ⟨rfl,rfl⟩;exact a);unfold Instr.typeAssert;simp only[lwp_bind,Qd hu,if_true,Qg];exact⟨trivial,trivial⟩
theorem parseT_wrong{t:Bs}(h:¬ 60000<t.length){u:Tr.TF}{n:Nat}(e:goT 0 noTreaty (linesL t)=(u,some n)):parseT t=(noTreaty,n,3):=by
 unfold parseT;rw[if_neg h,e]
theorem Hb{t:Bs}(h:¬ 60000<t.length){u:Tr.TF}(e:goT 0 noTreaty (linesL t)=(u,none)):parseT t=if linesL t=[] then (noTreaty,0,3) else if Tr.checkT u≠0 then (noTreaty,0,Tr.checkT u) else (u,0,0):=by
 unfold parseT;rw[if_neg h,e]
end Go.TM.Tp
namespace Go.Y.Txt
open Go.TM.Tp Go.TM.Tr
attribute [local irreducible] T.wp CV FWK
structure Res(hS H:LH)(r r1 r2:Nat)(vs:List Value)(l w:Value):Prop where
 le:hS.le H
 d:hS.get r=none/\hS.get r1=none/\hS.get r2=none
 ne:r1≠r/\r2≠r/\r2≠r1
 c0:H.get r=some (true,.cells vs.toArray 38 (0,0))
 c1:H.get r1=some (true,.cells #[l] 3 (0,0))
 c2:H.get r2=some (true,.cells #[w] 29 (0,0))
def resK(r r1 r2:Nat):Cells:=fun x=>if x=r then some (true,.cells zeroF 38 (0,0)) else if x=r1 then some (true,.cells #[.int .i64 0] 3 (0,0)) else if x=r2 then some (true,.cells #[.int .i64 0] 29 (0,0)) else none
def zeroL:List Value:=[.int .i64 0,.int .i64 0,.int .i64 0,.int .i64 0,.int .i64 0,.int .i64 0,.slice none 0 0]
variable {hS H:LH}{r r1 r2 b j m c:Nat}{h:Cells}{v l w:Value}{vs:List Value}{el:TypeId}{X:XP}{Q:Leaf->LH->Prop}{k:T}{x0 x1 x2 x3 x4 x5:Int}{p:Option Addr}
theorem Res.init(d:hS.get r=none/\hS.get r1=none/\hS.get r2=none)(ne:r1≠r/\r2≠r/\r2≠r1):Res hS (hS.add (resK r r1 r2)) r r1 r2 zeroL (.int .i64 0) (.int .i64 0):=by
 refine⟨Zy _ _,d,ne,?_,?_,?_⟩
 ·show (hS.get.add _) r=_;rw[Qk d.1];unfold resK;rw[if_pos rfl];rfl
 ·show (hS.get.add _) r1=_;rw[Qk d.2.1];unfold resK;rw[if_neg ne.1,if_pos rfl]
 ·show (hS.get.add _) r2=_;rw[Qk d.2.2];unfold resK;rw[if_neg ne.2.1,if_neg ne.2.2,if_pos rfl]
theorem Ha{x:Nat}(a:x≠b):(h.setCell ⟨b,j,none⟩ v) x=h x:=by unfold Cells.setCell;rw[if_neg a]
theorem set_eq(hb:h b=some (true,.cells vs.toArray el (0,0))):(h.setCell ⟨b,j,none⟩ v) b=some (true,.cells (vs.set j v).toArray el (0,0)):=by
 unfold Cells.setCell;rw[if_pos rfl,hb];simp
theorem Ka(hb:h b=some (true,.cells vs.toArray el (0,0)))(a:vs[j]?=some v):h.cell? ⟨b,j,none⟩=some v:=by
 unfold Cells.cell?;rw[hb];simpa using a
theorem Dq(s:Res hS H r r1 r2 vs l w)(j:Nat)(c:j<vs.length)(hv:isOne v=true)(e:∀ b,Res hS b r r1 r2 (vs.set j v) l w->k.wp X Tryz.prog Q b):(T.store (Addr.add ⟨r,0,none⟩ j) v k).wp X Tryz.prog Q H:=by
 rw[Qa,Nat.zero_add];refine Go.TM.t_store hv ⟨_,s.c0⟩ (Ka s.c0 (List.getElem?_eq_getElem c)) (by unfold Cells.frozen?;rw[s.c0];simp) (e _ ⟨⟨fun x y a=>?_,s.le.2⟩,s.d,s.ne,set_eq s.c0,?_,?_⟩)
 ·have hr:x≠r:=by rintro rfl;rw[s.d.1]at a;cases a
  show (H.get.setCell _ _) x=_;rw[Ha hr];exact s.le.1 _ _ a
 ·show (H.get.setCell _ _) r1=_;rw[Ha s.ne.1];exact s.c1
 ·show (H.get.setCell _ _) r2=_;rw[Ha s.ne.2.1];exact s.c2
theorem t_res1(s:Res hS H r r1 r2 vs l w)(hv:isOne v=true)(c:∀ b,Res hS b r r1 r2 vs v w->k.wp X Tryz.prog Q b):(T.store (Addr.add ⟨r1,0,none⟩ 0) v k).wp X Tryz.prog Q H:=by
 rw[Qa];have c1:H.get r1=some (true,.cells ([l]:List Value).toArray 3 (0,0)):=s.c1;refine Go.TM.t_store hv ⟨_,s.c1⟩ (Ka c1 rfl) (by unfold Cells.frozen?;rw[s.c1];simp) (c _ ⟨⟨fun x y a=>?_,s.le.2⟩,s.d,s.ne,?_,set_eq c1,?_⟩)
 ·have hr:x≠r1:=by rintro rfl;rw[s.d.2.1]at a;cases a
  show (H.get.setCell _ _) x=_;rw[Ha hr];exact s.le.1 _ _ a
 ·show (H.get.setCell _ _) r=_;rw[Ha (Ne.symm s.ne.1)];exact s.c0
 ·show (H.get.setCell _ _) r2=_;rw[Ha s.ne.2.2];exact s.c2
theorem t_res2(s:Res hS H r r1 r2 vs l w)(hv:isOne v=true)(c:∀ b,Res hS b r r1 r2 vs l v->k.wp X Tryz.prog Q b):(T.store (Addr.add ⟨r2,0,none⟩ 0) v k).wp X Tryz.prog Q H:=by
 rw[Qa];have c2:H.get r2=some (true,.cells ([w]:List Value).toArray 29 (0,0)):=s.c2;refine Go.TM.t_store hv ⟨_,s.c2⟩ (Ka c2 rfl) (by unfold Cells.frozen?;rw[s.c2];simp) (c _ ⟨⟨fun x y a=>?_,s.le.2⟩,s.d,s.ne,?_,?_,set_eq c2⟩)
 ·have hr:x≠r2:=by rintro rfl;rw[s.d.2.2]at a;cases a
  show (H.get.setCell _ _) x=_;rw[Ha hr];exact s.le.1 _ _ a
 ·show (H.get.setCell _ _) r=_;rw[Ha (Ne.symm s.ne.2.1)];exact s.c0
 ·show (H.get.setCell _ _) r1=_;rw[Ha (Ne.symm s.ne.2.2)];exact s.c1
theorem Yg(s:Res hS H r r1 r2 vs l w)(f:vs.length=7)(e w':Int)(g:∀ d,Res hS d r r1 r2 [.int .i64 x0,.int .i64 x1,.int .i64 x2,.int .i64 x3,.int .i64 x4,.int .i64 x5,.slice p m c] (.int .i64 e) (.int .i64 w')->k.wp X Tryz.prog Q d) :
  (T.store (Addr.add ⟨r,0,none⟩ 0) (.int .i64 x0) (.store (Addr.add ⟨r,0,none⟩ 1) (.int .i64 x1) (.store (Addr.add ⟨r,0,none⟩ 2) (.int .i64 x2) (.store (Addr.add ⟨r,0,none⟩ 3) (.int .i64 x3) (.store (Addr.add ⟨r,0,none⟩ 4) (.int .i64 x4) (.store (Addr.add ⟨r,0,none⟩ 5) (.int .i64 x5) (.store (Addr.add ⟨r,0,none⟩ 6) (.slice p m c)
   (.store (Addr.add ⟨r1,0,none⟩ 0) (.int .i64 e) (.store (Addr.add ⟨r2,0,none⟩ 0) (.int .i64 w') k))))))))).wp X Tryz.prog Q H:=by
 obtain⟨v0,v1,v2,a,v4,b,v6,rfl⟩ : ∃ v0 v1 v2 a v4 b v6,vs=[v0,v1,v2,a,v4,b,v6]:=by
  match vs,f with
  | [v0,v1,v2,a,v4,b,v6],_=>exact⟨_,_,_,_,_,_,_,rfl⟩
 refine Dq s 0 (by simp) rfl fun _ s=>?_;refine Dq s 1 (by simp) rfl fun _ s=>?_;refine Dq s 2 (by simp) rfl fun _ s=>?_;refine Dq s 3 (by simp) rfl fun _ s=>?_;refine Dq s 4 (by simp) rfl fun _ s=>?_;refine Dq s 5 (by simp) rfl fun _ s=>?_;refine Dq s 6 (by simp) rfl fun _ s=>?_;refine t_res1 s rfl fun _ s=>?_;exact t_res2 s rfl fun _ s=>g _ s
theorem U8{l w:Int}(s:Res hS H r r1 r2 [.int .i64 x0,.int .i64 x1,.int .i64 x2,.int .i64 x3,.int .i64 x4,.int .i64 x5,.slice p m c] (.int .i64 l) (.int .i64 w))
 (a:Q (.ret (.tuple #[.agg #[x0,x1,x2,x3,x4,x5,.slice p m c],l,w])) H):(readT r r1 r2).wp X Tryz.prog Q H:=by
 have b:H.get.cell? (Addr.add ⟨r,0,none⟩ 0)=some (.int .i64 x0):=by rw[Qa];exact Ka s.c0 rfl
 have d:H.get.cell? (Addr.add ⟨r,0,none⟩ 1)=some (.int .i64 x1):=by rw[Qa];exact Ka (j:=0+1) s.c0 rfl
 have e:H.get.cell? (Addr.add ⟨r,0,none⟩ 2)=some (.int .i64 x2):=by rw[Qa];exact Ka (j:=0+2) s.c0 rfl
 have f:H.get.cell? (Addr.add ⟨r,0,none⟩ 3)=some (.int .i64 x3):=by rw[Qa];exact Ka (j:=0+3) s.c0 rfl
 have g4:H.get.cell? (Addr.add ⟨r,0,none⟩ 4)=some (.int .i64 x4):=by rw[Qa];exact Ka (j:=0+4) s.c0 rfl
 have g5:H.get.cell? (Addr.add ⟨r,0,none⟩ 5)=some (.int .i64 x5):=by rw[Qa];exact Ka (j:=0+5) s.c0 rfl
 have g6:H.get.cell? (Addr.add ⟨r,0,none⟩ 6)=some (.slice p m c):=by rw[Qa];exact Ka (j:=0+6) s.c0 rfl
 have g:H.get.cell? ⟨r1,0,none⟩=some (.int .i64 l):=Ka (vs:=[.int .i64 l]) s.c1 rfl;have h:H.get.cell? ⟨r2,0,none⟩=some (.int .i64 w):=Ka (vs:=[.int .i64 w]) s.c2 rfl;unfold readT;refine gZ ?_;exact Ub a
theorem und20:Tryz.prog.underlying 20=some (.interface #[]):=by kernel_rfl
theorem undWrong:Tryz.prog.underlying 142=some (.int .i64):=by kernel_rfl
def ParseTA(o:TF×Nat×Int)(r:Value)(h:LH):Prop:=∃ f,r=.tuple #[treatyV f o.1,.int .i64 (o.2.1:Int),.int .i64 o.2.2]/\TreatyR h.get f o.1
theorem zero_R:TreatyR h ⟨none,0,0⟩ noTreaty:=⟨Nat.le_refl _,rfl,by decide,fun i x a=>by cases a⟩
theorem ParseTA.zero{h:LH}{n:Nat}{w:Int}:ParseTA (noTreaty,n,w) (.tuple #[.agg #[.int .i64 0,.int .i64 0,.int .i64 0,.int .i64 0,.int .i64 0,.int .i64 0,.slice none 0 0],.int .i64 (n:Int),w]) h:=⟨⟨none,0,0⟩,rfl,zero_R⟩
def BadV(t:Bs)(v:Value):Prop:=∃ k u,goT 0 noTreaty (linesL t)=(u,some k)/\v=wrongV (k:Int)
def ParJ(h:LH)(r3:Nat)(t:Bs)(s:Bs)(vs:List Value)(h':LH):Prop:=∃ (hB:LH) (n:Nat) (x:TF) (f:TC),vs=[]/\h.le hB/\RSt hB h' r3 (rdL x f n) f x.events/\goT n x (linesL s)=goT 0 noTreaty (linesL t)/\s.length+n<=t.length/\x.events.length<=n/\(n=0->s=t)/\(n≠0->t≠[])
theorem c3711{h:LH}(hk:Tre.Kinds h.get)(hw:KWords h.get)(t:Bs):FW XT Tryz.prog 18 #[.string (str t)] h fun r h'=>h.le h'/\ParseTA (parseT t) r h':=by
 refine parse_catch ?_;rw[parse_tree];refine Kg fun r hr=>?_;refine Kg fun r1 q=>?_;refine Kg fun r2 v=>?_;have q:(h.get.upd r (true,.cells zeroF 38 (0,0))) r1=none:=q;have v:((h.get.upd r (true,.cells zeroF 38 (0,0))).upd r1 (true,.cells #[.int .i64 0] 3 (0,0))) r2=none:=v;have n1:r1≠r:=by rintro rfl;rw[Qn]at q;cases q
 have E:h.get r1=none:=by rw[Qp _ _ n1]at q;exact q
 have n2:r2≠r1:=by rintro rfl;rw[Qn]at v;cases v
 have l:(h.get.upd r (true,.cells zeroF 38 (0,0))) r2=none:=by rw[Qp _ _ n2]at v;exact v
 have n3:r2≠r:=by rintro rfl;rw[Qn]at l;cases l
 have F:h.get r2=none:=by rw[Qp _ _ n3]at l;exact l
 have dK:Disj h.get (resK r r1 r2):=fun x=>by
  unfold resK;by_cases O:x=r
  ·subst O;exact .inl hr
  ·by_cases C:x=r1
   ·subst C;exact .inl E
   ·by_cases H:x=r2
    ·subst H;exact .inl F
    ·right;rw[if_neg O,if_neg C,if_neg H]
 have eH:({ { { h with get:=h.get.upd r (true,.cells zeroF 38 (0,0)) } with get:=(h.get.upd r (true,.cells zeroF 38 (0,0))).upd r1 (true,.cells #[.int .i64 0] 3 (0,0)) } with get:=((h.get.upd r (true,.cells zeroF 38 (0,0))).upd r1 (true,.cells #[.int .i64 0] 3 (0,0))).upd r2 (true,.cells #[.int .i64 0] 29 (0,0)) }:LH)=h.add (resK r r1 r2):=by
  have eG:((h.get.upd r (true,.cells zeroF 38 (0,0))).upd r1 (true,.cells #[.int .i64 0] 3 (0,0))).upd r2 (true,.cells #[.int .i64 0] 29 (0,0))=h.get.add (resK r r1 r2):=by
   funext x;unfold Cells.upd Cells.add resK;by_cases H:x=r2
   ·subst H;simp[F,n2,n3]
   ·by_cases C:x=r1
    ·subst C;simp[H,E,n1]
    ·by_cases O:x=r
     ·subst O;simp[H,C,hr]
     ·simp only[O,C,H,if_false];cases h.get x<;>rfl
  exact congrArg (fun g=>({ h with get:=g }:LH)) eG
 have key:∀ {k:T},k.wp XT Tryz.prog (Qc fun r h'=>h.le h'/\ParseTA (parseT t) r h') (h.add (resK r r1 r2))->k.wp XT Tryz.prog (Qc fun r h'=>h.le h'/\ParseTA (parseT t) r h') ({ { { h with get:=h.get.upd r (true,.cells zeroF 38 (0,0)) } with get:=(h.get.upd r (true,.cells zeroF 38 (0,0))).upd r1 (true,.cells #[.int .i64 0] 3 (0,0)) } with get:=((h.get.upd r (true,.cells zeroF 38 (0,0))).upd r1 (true,.cells #[.int .i64 0] 3 (0,0))).upd r2 (true,.cells #[.int .i64 0] 29 (0,0)) }:LH):=fun w=>by rw[eH];exact w
 refine key ?_;clear key eH;have R0:=Res.init (hS:=h) ⟨hr,E,F⟩ ⟨n1,n3,n2⟩;refine Q8 undS ?_;refine yJ (fun e=>?_) (fun e=>?_)
 ·have:parseT t=(noTreaty,0,2):=by unfold parseT;rw[if_pos (by omega)]
  rw[this];unfold zeroT;refine Yg R0 rfl 0 2 fun I i=>?_;refine U8 i ⟨i.le,?_⟩;exact ParseTA.zero
 have ht:¬ 60000<t.length:=by omega
 refine Kg fun r3 A=>?_;have A:(h.get.add (resK r r1 r2)) r3=none:=A;have U:h.get r3=none:=by
  cases hx:h.get r3 with
  | none=>rfl
  | some y=>rw[Qi hx]at A;cases A
 have u0:resK r r1 r2 r3=none:=by rw[Qk U]at A;exact A
 have m0:Disj (h.get.upd r3 (true,.cells zeroR 141 (0,0))) (resK r r1 r2):=fun x=>by
  by_cases e:x=r3
  ·subst e;exact .inr u0
  ·rw[Qp _ _ e];exact dK x
 have eU:(h.get.add (resK r r1 r2)).upd r3 (true,.cells zeroR 141 (0,0))=(h.get.upd r3 (true,.cells zeroR 141 (0,0))).add (resK r r1 r2):=by
  funext x;unfold Cells.upd Cells.add;by_cases e:x=r3
  ·simp[e]
  ·simp[e]
 have key:∀ {k:T} {Q:Leaf->LH->Prop},k.wp XT Tryz.prog Q (({ h with get:=h.get.upd r3 (true,.cells zeroR 141 (0,0)) }:LH).add (resK r r1 r2))->k.wp XT Tryz.prog Q { h.add (resK r r1 r2) with get:=(h.add (resK r r1 r2)).get.upd r3 (true,.cells zeroR 141 (0,0)) }:=fun w=>by
  have O:({ h.add (resK r r1 r2) with get:=(h.add (resK r r1 r2)).get.upd r3 (true,.cells zeroR 141 (0,0)) }:LH)=({ h with get:=h.get.upd r3 (true,.cells zeroR 141 (0,0)) }:LH).add (resK r r1 r2):=congrArg (fun g=>({ h with get:=g }:LH)) eU;rw[O];exact w
 refine key ?_;clear key eU;have k0:h.le { h with get:=h.get.upd r3 (true,.cells zeroR 141 (0,0)) }:=⟨Zc _ U,rfl,rfl,rfl⟩
 have S0:RSt h { h with get:=h.get.upd r3 (true,.cells zeroR 141 (0,0)) } r3 (rdL noTreaty ⟨none,0,0⟩ 0) ⟨none,0,0⟩ noTreaty.events:=⟨k0,U,Qn _ _ _,Growing.nil⟩
 generalize n0:({ h with get:=h.get.upd r3 (true,.cells zeroR 141 (0,0)) }:LH)=B at *;have l0:Disj B.get (resK r r1 r2):=by rw[<- n0];exact m0
 refine Yi ⟨[.pointer (some ⟨r,0,none⟩),.pointer (some ⟨r1,0,none⟩),.pointer (some ⟨r2,0,none⟩)],rfl⟩ ?_;refine Jp (Yx (c3726 t)) ?_;rintro _ _ ⟨z,rfl,Z,rfl⟩;have Z:(B.get.add (resK r r1 r2)) z=none:=Z;have j0:B.get z=none:=by
  cases hx:B.get z with
  | none=>rfl
  | some y=>rw[Qi hx]at Z;cases Z
 have kz:resK r r1 r2 z=none:=by rw[Qk j0]at Z;exact Z
 have eS:(B.add (resK r r1 r2)).add (bxC z 9 (.string (str t)))=(B.add (bxC z 9 (.string (str t)))).add (resK r r1 r2):=by
  unfold LH.add;simp only;rw[show (B.get.add (resK r r1 r2)).add (bxC z 9 (.string (str t)))=(B.get.add (bxC z 9 (.string (str t)))).add (resK r r1 r2) from Q4 (J5 kz)]
 rw[eS];have y0:t.length<=2^17:=by omega
 let KF:Option AV->Option AV->Option AV->LH->Prop:=fun a b c h'=>(a=some (.val (.pointer (some ⟨r,0,none⟩)))/\b=some (.val (.pointer (some ⟨r1,0,none⟩)))/\c=some (.val (.pointer (some ⟨r2,0,none⟩))))/\(readT r r1 r2).wp XT Tryz.prog (retQ fun r h'=>h.le h'/\ParseTA (parseT t) r h') h';refine Yi ⟨[.pointer (some ⟨r,0,none⟩),.pointer (some ⟨r1,0,none⟩),.pointer (some ⟨r2,0,none⟩)],B.add (bxC z 9 (.string (str t))),h,resK r r1 r2,BadV t,fun e=>KF (slotA e 2) (slotA e 3) (slotA e 4),rfl,by kernel_rfl,rfl,?_,?_,?_,dK,?_⟩ (Ub trivial)
 ·intro x;rcases l0 x with h1|h1
  ·by_cases e:x=z
   ·subst e;exact .inr kz
   ·left;show (B.get.add (bxC z _ _)) x=none;rw[Qk h1];exact Kw e
  ·exact .inr h1
 ·-- w0 loop
  intro X px;rw[each_tree];refine t_eachF (P:=Tryz.prog) (μ:=List.length) ?_ (hm:=B) (k₀:=bxC z 9 (.string (str t))) rfl (J5 j0) k0 (hands3743 px.ok t (by omega)) (ParJ h r3 t) ⟨h,0,noTreaty,⟨none,0,0⟩,rfl,LH.le_refl h,S0,rfl,by omega,Nat.le_refl _,fun _=>rfl,fun h0=>absurd rfl h0⟩ ?_ ?_
  ·rintro s xs s' ⟨h0,rfl,rfl⟩;exact(Hv h0).1
  ·-- behind w0 last line
   rintro s vs h' e0 hl ⟨hB,n,x,f,rfl,m,S,hgo,W,a0,h0,h1⟩;have hs:s=[]:=e0;subst hs;have C:goT 0 noTreaty (linesL t)=(x,none):=by rw[<- hgo,lines_nil,goT]
   refine gZ ?_;refine Yi (fun dk=>?_) (Ub trivial);rw[post_tree (K:=KF)];have G:resK r r1 r2 r≠none/\resK r r1 r2 r1≠none/\resK r r1 r2 r2≠none:=by
    unfold resK;simp[n1,n2,n3]
   have N:∀ y,resK r r1 r2 y≠none->h'.get y=none:=fun y hy=>(dk y).resolve_right hy;have R:=Res.init (hS:=h') ⟨N r G.1,N r1 G.2.1,N r2 G.2.2⟩ ⟨n1,n3,n2⟩;have J:=S.up (Zy h' (resK r r1 r2));have fileR:TreatyR h'.get f x:=by
    obtain⟨ws,o,_⟩:=S.ev.row;exact⟨o.le_cap,S.ev.sl EventEnc.len (by omega) (EventEnc.e (Jj S.le.1)) (by omega)⟩
   have L:∀ {k:Nat} {w:Int} {I:LH},parseT t=(noTreaty,k,w)->Res h' I r r1 r2 [.int .i64 0,.int .i64 0,.int .i64 0,.int .i64 0,.int .i64 0,.int .i64 0,.slice none 0 0] (.int .i64 (k:Int)) (.int .i64 w)->(T.mem (KF (some (.val (.pointer (some ⟨r,0,none⟩)))) (some (.val (.pointer (some ⟨r1,0,none⟩)))) (some (.val (.pointer (some ⟨r2,0,none⟩))))) (.leaf (.ret undef))).wp XT Tryz.prog anyQ I:=by
    intro k w I hp i;refine Yi ⟨⟨rfl,rfl,rfl⟩,U8 i ⟨LH.le_trans hl i.le,?_⟩⟩ (Ub trivial);rw[hp];exact ParseTA.zero
   have pa:∀ j,(((⟨r3,0,none⟩ : Addr).add 0).add j)=⟨r3,j,none⟩:=fun j=>by rw[Qa,Qa];simp
   have g7:(h'.add (resK r r1 r2)).get.cell? ((⟨r3,0,none⟩ : Addr).add 7)=some (.int .i64 (n:Int)):=by rw[Qa];exact J.at (j:=0+7) rfl
   have q0:(h'.add (resK r r1 r2)).get.cell? (((⟨r3,0,none⟩ : Addr).add 0).add 0)=some (.int .i64 x.items):=by rw[pa];exact J.at rfl
   have q1:(h'.add (resK r r1 r2)).get.cell? (((⟨r3,0,none⟩ : Addr).add 0).add 1)=some (.int .i64 x.lands):=by rw[pa];exact J.at rfl
   have q2:(h'.add (resK r r1 r2)).get.cell? (((⟨r3,0,none⟩ : Addr).add 0).add 2)=some (.int .i64 x.start):=by rw[pa];exact J.at rfl
   have q3:(h'.add (resK r r1 r2)).get.cell? (((⟨r3,0,none⟩ : Addr).add 0).add 3)=some (.int .i64 x.depend):=by rw[pa];exact J.at rfl
   have q4:(h'.add (resK r r1 r2)).get.cell? (((⟨r3,0,none⟩ : Addr).add 0).add 4)=some (.int .i64 x.refuse):=by rw[pa];exact J.at rfl
   have q5:(h'.add (resK r r1 r2)).get.cell? (((⟨r3,0,none⟩ : Addr).add 0).add 5)=some (.int .i64 x.turn):=by rw[pa];exact J.at rfl
   have q6:(h'.add (resK r r1 r2)).get.cell? (((⟨r3,0,none⟩ : Addr).add 0).add 6)=some (.slice f.p f.n f.c):=by rw[pa];exact J.at rfl
   refine yI (fun e=>?_) (fun e=>?_)
   ·have V:n=0:=by
     have:(n:Int)=0:=by simpa using e
     omega
    have p0:t=[]:=(h0 V).symm;refine Yg R rfl 0 3 fun I i=>L ?_ i;rw[Hb ht C,if_pos (by rw[p0];rfl)]
   ·have V:n≠0:=fun h=>by rw[h]at e;simp at e
    have D:=h1 V;have g0:parseT t=if checkT x≠0 then (noTreaty,0,checkT x) else (x,0,0):=by rw[Hb ht C,if_neg (by rw[lines_step D];simp)]
    unfold loadT;refine gZ ?_;refine t_pu (Tre.c2021 (hk.le (LH.le_trans hl (Zy _ _)).1) ((⟨fileR.1,fileR.2.le EventE.grow (Zy h' (resK r r1 r2)).1⟩ : TreatyR (h'.add (resK r r1 r2)).get f x))) ?_;refine yI (fun e=>?_) (fun e=>?_)
    ·have hc:checkT x≠0:=by simpa using e
     refine Yg R rfl 0 (checkT x) fun I i=>L ?_ i;rw[g0,if_pos hc]
    ·have hc:checkT x=0:=by simpa using e
     refine gZ ?_;refine Yg R rfl 0 0 fun I i=>?_;refine Yi ⟨⟨rfl,rfl,rfl⟩,U8 i ⟨LH.le_trans hl i.le,?_⟩⟩ (Ub trivial);rw[g0,if_neg (by simp[hc])];exact⟨f,rfl,fileR.1,fileR.2.le EventE.grow i.le.1⟩
  ·-- a line
   rintro s xs s' vs h' ⟨D,rfl,rfl⟩ hl ⟨hB,n,x,f,rfl,m,S,hgo,W,a0,h0,h1⟩ Y hY;have x0:=Hv D;have z0:=trimS_len 10 (lineCut s).1;rw[lines_step D]at hgo;refine gZ ?_;refine Qs ?_;refine gZ ?_;refine t_pu (c3728 _ 10 (by omega)) ?_;refine Qs ?_;refine gZ ?_;generalize trimS 10 (lineCut s).1=bb at *;generalize (lineCut s).2=s' at *;refine Jp (c3737 px S m (hk.le m.1) (hw.le m.1) bb (by omega) (by omega) (by omega) (fun h0=>?_)) ?_
   ·rw[goT,h0]at hgo;exact⟨n+1,x,hgo.symm,rfl⟩
   rintro _ h2 ⟨rfl,y,o0,f',hy,l2,S2⟩;refine gZ ?_;have M:h.le h2:=LH.le_trans (LH.le_trans m l2) S2.le;rw[goT,hy]at hgo;refine Ju M (hY _ _ M ⟨o0,n+1,y.put x,f',rfl,LH.le_trans m l2,S2,hgo,by omega,?_,fun h=>absurd h (by omega),fun _ e=>D (List.eq_nil_of_length_eq_zero (by rw[e]at W;exact Nat.eq_zero_of_add_eq_zero_right (Nat.le_zero.1 W)))⟩);cases y with
   | head a b c d e f=>exact Nat.zero_le _
   | event e=>show (x.events++[e]).length<=n+1;rw[List.length_append];simpa using a0
 ·-- no panic
  rintro e h' ⟨⟨C,H,e4⟩,s0⟩;unfold lastW;rw[res_tree C H e4];rw[show closT (cloC pC [] []) 6 pRest [.pointer (some ⟨r,0,none⟩),.pointer (some ⟨r1,0,none⟩),.pointer (some ⟨r2,0,none⟩)] .nilIface=cloT .nilIface r r1 r2 from clo_tree];unfold cloT;refine t_eqNilI und20 (.inl rfl) rfl ?_;refine yT ?_;exact Qh s0
 ·-- a panic
  rintro v₀ ⟨k,u,hgo,rfl⟩;rw[vals_slots];unfold lastW;rw[res_tree (r:=r) (r1:=r1) (r2:=r2) rfl rfl rfl];rw[show closT (cloC pC [] []) 6 pRest [.pointer (some ⟨r,0,none⟩),.pointer (some ⟨r1,0,none⟩),.pointer (some ⟨r2,0,none⟩)] (wrongV k)=cloT (wrongV k) r r1 r2 from clo_tree];unfold cloT wrongV;refine t_eqNilI und20 (.inr ⟨_,_,rfl⟩) rfl ?_;refine yF ?_;refine t_assertI undWrong ?_;refine yT ?_;refine Yg R0 rfl (k:Int) 3 fun I i=>?_;refine Qh (U8 i ⟨i.le,?_⟩);rw[parseT_wrong ht hgo];exact ParseTA.zero
end Go.Y.Txt
end
section
namespace Go.TM.Tp
theorem t_sliceArrM{P:Program}{X:XP}{Q:Leaf->LH->Prop}{h:LH}{K:Value->T}{t el:TypeId}{n i j s b:Nat}{z:Option Value}{a:Addr}(hu:P.underlying t=some (.array n el))(e:(P.info? el).map (fun i=>(i.size,i.bytes,i.zero))=some (s,b,z))(f:i<=j)(k:j<=n)(g:i<n)
 (l:(K (.slice (some (a.add (i*s))) (j-i) (n-i))).wp X P Q h):(T.sem false (Instr.sliceAt t (.pointer (some a)) (some (.int .i64 (i:Int))) (some (.int .i64 (j:Int))) none) K).wp X P Q h:=by
 obtain⟨inf,c,d,_,_⟩:=Z3 e;refine Jh (A:=fun v h'=>h'=h.get/\(K v).wp X P Q h) ?_ (by rintro v h' ⟨rfl,hw⟩;exact hw);unfold Instr.sliceAt;simp only[lwp_bind,Qd hu,Instr.sureAddr];unfold Instr.sliceBounds Instr.sliceBound;simp only[lwp_bind,Qg,asIntOf];rw[if_pos (show 0<=(j:Int)/\(j:Int)<=(n:Int) by omega)];simp only[Qg,lwp_bind,Int.toNat_natCast];rw[if_pos (show 0<=(i:Int)/\(i:Int)<=(j:Int) by omega)];simp only[Qg,lwp_bind,Int.toNat_natCast,Q2 c,d];refine⟨trivial,?_⟩;rw[if_neg (by omega)];exact l
end Go.TM.Tp
namespace Go.Y.Txt
open Go.TM.Tp
open Go.Lib (decDigits)
attribute [local irreducible] T.wp CV FWK
variable {h:LH}{r n:Nat}{cs:Array Value}
theorem und24:Tryz.prog.underlying 291=some (.array 24 5):=by kernel_rfl
abbrev bV(b:UInt8):Value:=.int .u8 (b.toNat:Int)
set_option maxHeartbeats 0 in
theorem k3784(h1:1000<=n)(h2:n<10000)(hb:h.get r=some (true,.cells cs 291 (0,0)))(p:cs.size=24) :
  FW X0 Tryz.prog 200 #[.slice (some ⟨r,1,none⟩) 4 23,.int .u64 (n:Int)] h fun v h'=>v=.tuple #[]/\Wr 291 24 r h h' [(1,bV (hiD (n / 100))),(2,bV (loD (n / 100))),(3,bV (hiD (n%100))),(4,bV (loD (n%100)))]:=by
 refine w3784 _ _ _ _ Qr ?_;unfold n3784;have x:Wr 291 24 r h h []:=⟨⟨fun _ _=>rfl,rfl,rfl,rfl⟩,cs,hb,p,by simp⟩
 refine Je (fun q vs h'=>vs=[.int .u64 (n:Int),.int .i64 ((4:Nat):Int)]/\h=h') (n:=0) ⟨rfl,rfl⟩ ?_;rintro Y q vs _ B ⟨rfl,rfl⟩;refine gZ ?_;refine t_if (fun e=>absurd e (by decide)) (fun _=>?_);refine gH ?_;refine gZ ?_;have b:n%100<100:=by omega
 have a:n / 100<100:=by omega
 have s:Za[2*(n%100)]?=some (hiD (n%100)):=(Gv _ b).1;have t:Za[2*(n%100)+1]?=some (loD (n%100)):=(Gv _ b).2;have u:Za[2*(n / 100)]?=some (hiD (n / 100)):=(Gv _ a).1;have w:Za[2*(n / 100)+1]?=some (loD (n / 100)):=(Gv _ a).2;have f:IntKind.wrap .u32 (n:Int)=(n:Int):=Zs (by omega);have w1:Int.tmod (n:Int) 10000=(n:Int):=by rw[Int.tmod_eq_emod_of_nonneg (by omega)];omega
 have w2:Int.tmod (n:Int) 100*2=((2*(n%100):Nat):Int):=by rw[Int.tmod_eq_emod_of_nonneg (by omega)];omega
 have w3:Int.tdiv (n:Int) 100=((n / 100:Nat):Int):=by rw[Int.tdiv_eq_ediv_of_nonneg (by omega)];omega
 have w4:Int.tdiv (n:Int) 10000=((0:Nat):Int):=by rw[Int.tdiv_eq_ediv_of_nonneg (by omega)];omega
 have i1:IntKind.wrap .u32 (Int.tmod (Int.tmod (IntKind.wrap .u32 (n:Int)) 10000) 100*2)=((2*(n%100):Nat):Int):=by rw[f,w1,w2,Zs (by omega)]
 have i2:IntKind.wrap .u32 (IntKind.wrap .u32 (Int.tmod (Int.tmod (IntKind.wrap .u32 (n:Int)) 10000) 100*2)+1)=((2*(n%100)+1:Nat):Int):=by
  rw[i1];exact Zs (n:=2*(n%100)+1) (by omega)
 have i3:IntKind.wrap .u32 (IntKind.wrap .u32 (Int.tdiv (Int.tmod (IntKind.wrap .u32 (n:Int)) 10000) 100)*2)=((2*(n / 100):Nat):Int):=by
  rw[f,w1,w3,Zs (by omega)];have:=Zs (n:=2*(n / 100)) (by omega);rw[<- this];congr 1;omega
 have i4:IntKind.wrap .u32 (IntKind.wrap .u32 (IntKind.wrap .u32 (Int.tdiv (Int.tmod (IntKind.wrap .u32 (n:Int)) 10000) 100)*2)+1)=((2*(n / 100)+1:Nat):Int):=by
  rw[i3];exact Zs (n:=2*(n / 100)+1) (by omega)
 have i5:IntKind.wrap .u32 (Int.tdiv (IntKind.wrap .u32 (n:Int)) 10000)=0:=by rw[f,w4];rfl
 have b1:0<=wrap .i64 (((4:Nat):Int)-1)/\wrap .i64 (((4:Nat):Int)-1)<((4:Nat):Int):=by decide
 have y:0<=wrap .i64 (((4:Nat):Int)-2)/\wrap .i64 (((4:Nat):Int)-2)<((4:Nat):Int):=by decide
 have z:0<=wrap .i64 (((4:Nat):Int)-3)/\wrap .i64 (((4:Nat):Int)-3)<((4:Nat):Int):=by decide
 have A:0<=wrap .i64 (((4:Nat):Int)-4)/\wrap .i64 (((4:Nat):Int)-4)<((4:Nat):Int):=by decide
 have i:Addr.add (Addr.add ⟨r,1,none⟩ (Int.toNat (wrap .i64 (((4:Nat):Int)-1))*1)) 0=⟨r,4,none⟩:=by rw[Qa,Qa];rfl
 have j:Addr.add (Addr.add ⟨r,1,none⟩ (Int.toNat (wrap .i64 (((4:Nat):Int)-2))*1)) 0=⟨r,3,none⟩:=by rw[Qa,Qa];rfl
 have m:Addr.add (Addr.add ⟨r,1,none⟩ (Int.toNat (wrap .i64 (((4:Nat):Int)-3))*1)) 0=⟨r,2,none⟩:=by rw[Qa,Qa];rfl
 have o:Addr.add (Addr.add ⟨r,1,none⟩ (Int.toNat (wrap .i64 (((4:Nat):Int)-4))*1)) 0=⟨r,1,none⟩:=by rw[Qa,Qa];rfl
 refine Ja (fun vs h'=>vs=[.int .i64 0,.int .u32 0]/\Wr 291 24 r h h' [(1,bV (hiD (n / 100))),(2,bV (loD (n / 100))),(3,bV (hiD (n%100))),(4,bV (loD (n%100)))]) ?_ ?_
 ·refine t_if (fun _=>?_) (fun e=>absurd (by decide) e)
  repeat (refine gT (by decide) ?_)
  refine Ja (fun vs h'=>vs=[]/\Wr 291 24 r h h' [(3,bV (hiD (n%100))),(4,bV (loD (n%100)))]) ?_ ?_
  ·repeat' (first|with_reducible apply Zr|refine K1 (l:=Za) (2*(n%100)) undS i1 s ?_|refine K1 (l:=Za) (2*(n%100)+1) undS i2 t ?_|(refine Yc (k:=4) (by assumption) i (by decide) (by decide) rfl ?_;intro d g)|(refine Yc (k:=3) (by assumption) j (by decide) (by simp) rfl ?_;intro d g)|exact Qj ⟨rfl,by assumption⟩|refine gZ ?_)
  rintro vs h3 ⟨rfl,c⟩;refine gZ ?_
  repeat' (first|with_reducible apply Zr|refine K1 (l:=Za) (2*(n / 100)) undS i3 u ?_|refine K1 (l:=Za) (2*(n / 100)+1) undS i4 w ?_|(refine Yc (k:=2) (by assumption) m (by decide) (by simp) rfl ?_;intro d g)|(refine Yc (k:=1) (by assumption) o (by decide) (by simp) rfl ?_;intro d g)|exact Qj ⟨by rw[i5];rfl,by assumption⟩|refine gZ ?_)
 rintro vs h3 ⟨rfl,c⟩;refine gZ ?_;refine t_if (fun e=>absurd e (by decide)) (fun _=>?_);refine t_if (fun e=>absurd e (by decide)) (fun _=>?_);exact Qh ⟨rfl,c⟩
set_option maxHeartbeats 0 in
theorem k3784'(h1:100<=n)(h2:n<1000)(hb:h.get r=some (true,.cells cs 291 (0,0)))(m:cs.size=24) :
  FW X0 Tryz.prog 200 #[.slice (some ⟨r,1,none⟩) 3 23,.int .u64 (n:Int)] h fun v h'=>v=.tuple #[]/\Wr 291 24 r h h' [(1,bV (UInt8.ofNat (48+n / 100))),(2,bV (hiD (n%100))),(3,bV (loD (n%100)))]:=by
 refine w3784 _ _ _ _ Qr ?_;unfold n3784;have t:Wr 291 24 r h h []:=⟨⟨fun _ _=>rfl,rfl,rfl,rfl⟩,cs,hb,m,by simp⟩
 refine Je (fun o vs h'=>vs=[.int .u64 (n:Int),.int .i64 ((3:Nat):Int)]/\h=h') (n:=0) ⟨rfl,rfl⟩ ?_;rintro Y o vs _ w ⟨rfl,rfl⟩;refine gZ ?_;refine t_if (fun e=>absurd e (by decide)) (fun _=>?_);refine gH ?_;refine gZ ?_;have a:n%100<100:=by omega
 have p:Za[2*(n%100)]?=some (hiD (n%100)):=(Gv _ a).1;have q:Za[2*(n%100)+1]?=some (loD (n%100)):=(Gv _ a).2;have s:IntKind.wrap .u32 (n:Int)=(n:Int):=Zs (by omega);have w2:Int.tmod (n:Int) 100*2=((2*(n%100):Nat):Int):=by rw[Int.tmod_eq_emod_of_nonneg (by omega)];omega
 have w3:Int.tdiv (n:Int) 100=((n / 100:Nat):Int):=by rw[Int.tdiv_eq_ediv_of_nonneg (by omega)];omega
 have i1:IntKind.wrap .u32 (Int.tmod (n:Int) 100*2)=((2*(n%100):Nat):Int):=by rw[w2,Zs (by omega)]
 have i2:IntKind.wrap .u32 (IntKind.wrap .u32 (Int.tmod (n:Int) 100*2)+1)=((2*(n%100)+1:Nat):Int):=by
  rw[i1];exact Zs (n:=2*(n%100)+1) (by omega)
 have i3:IntKind.wrap .u8 (IntKind.wrap .u32 (48+IntKind.wrap .u32 (Int.tdiv (n:Int) 100)))=((UInt8.ofNat (48+n / 100)).toNat:Int):=by
  have i:=Zs (n:=48+n / 100) (by omega);have j:=Y0 (n:=48+n / 100) (by omega);rw[w3,Zs (n:=n / 100) (by omega),show (48+((n / 100:Nat):Int))=((48+n / 100:Nat):Int) by omega,i,j,UInt8.toNat_ofNat'];omega
 have b1:0<=wrap .i64 (((3:Nat):Int)-1)/\wrap .i64 (((3:Nat):Int)-1)<((3:Nat):Int):=by decide
 have u:0<=wrap .i64 (((3:Nat):Int)-2)/\wrap .i64 (((3:Nat):Int)-2)<((3:Nat):Int):=by decide
 have d:Addr.add (Addr.add ⟨r,1,none⟩ (Int.toNat (wrap .i64 (((3:Nat):Int)-1))*1)) 0=⟨r,3,none⟩:=by rw[Qa,Qa];rfl
 have f:Addr.add (Addr.add ⟨r,1,none⟩ (Int.toNat (wrap .i64 (((3:Nat):Int)-2))*1)) 0=⟨r,2,none⟩:=by rw[Qa,Qa];rfl
 have g:Addr.add (Addr.add ⟨r,1,none⟩ 0) 0=⟨r,1,none⟩:=by rw[Qa,Qa]
 refine Ja (fun vs h'=>vs=[.int .i64 ((3:Nat):Int),.int .u32 (n:Int)]/\h=h') ?_ ?_
 ·refine t_if (fun e=>absurd e (by decide)) (fun _=>?_);exact Qj ⟨by rw[s],rfl⟩
 rintro vs _ ⟨rfl,rfl⟩;refine gZ ?_;refine t_if (fun _=>?_) (fun e=>absurd (by decide) e)
 repeat (refine gT (by decide) ?_)
 rw[i3]
 repeat' (first|with_reducible apply Zr|refine K1 (l:=Za) (2*(n%100)) undS i1 p ?_|refine K1 (l:=Za) (2*(n%100)+1) undS i2 q ?_|(refine Yc (k:=3) (by assumption) d (by decide) (by decide) rfl ?_;intro b c)|(refine Yc (k:=2) (by assumption) f (by decide) (by simp) rfl ?_;intro b c)|(refine Yc (k:=1) (by assumption) g (by decide) (by simp) rfl ?_;intro b c)|refine t_if (fun _=>?_) (fun e=>absurd (by decide) e)|exact Qh ⟨rfl,by assumption⟩|refine gZ ?_)
theorem c3784(h1:100<=n)(h2:n<10000)(hb:h.get r=some (true,.cells cs 291 (0,0)))(f:cs.size=24) :
  FW X0 Tryz.prog 200 #[.slice (some ⟨r,1,none⟩) (decDigits n).length 23,.int .u64 (n:Int)] h fun v h'=>v=.tuple #[]/\But r h h'/\∀ (j:Nat) w,((decDigits n).map u8V)[j]?=some w->h'.get.cell? (Addr.add ⟨r,1,none⟩ j)=some w:=by
 by_cases h3:n<1000
 ·rw[show (decDigits n).length=3 by rw[dig3d h1 h3];rfl,dig3d h1 h3];refine FW.mono (k3784' h1 h3 hb f) ?_;rintro v h' ⟨rfl,b,d,e,g,c⟩;refine⟨rfl,b,fun j w a=>?_⟩;rw[Qa];refine Zx e ?_
  match j,a with
  | 0,a=>cases a;exact c (1,_) (by simp)
  | 1,a=>cases a;exact c (2,_) (by simp)
  | 2,a=>cases a;exact c (3,_) (by simp)
  | j+3,a=>simp at a
 ·rw[show (decDigits n).length=4 by rw[dig4d (by omega) h2];rfl,dig4d (by omega) h2];refine FW.mono (k3784 (by omega) h2 hb f) ?_;rintro v h' ⟨rfl,b,d,e,g,c⟩;refine⟨rfl,b,fun j w a=>?_⟩;rw[Qa];refine Zx e ?_
  match j,a with
  | 0,a=>cases a;exact c (1,_) (by simp)
  | 1,a=>cases a;exact c (2,_) (by simp)
  | 2,a=>cases a;exact c (3,_) (by simp)
  | 3,a=>cases a;exact c (4,_) (by simp)
  | j+4,a=>simp at a
theorem c3775(hp:PowT 5 h.get)(n:Nat)(c:n<10000):Gr Tryz.prog 173 #[.int .i64 (n:Int),.int .i64 10] h fun r _=>r=.string (str (decDigits n)):=by
 refine w3775 Qr ?_;refine yT ?_;refine Ja (fun vs h'=>vs=[.string (str [])]/\h=h'/\100<=n) ?_ ?_
 ·refine t_if (fun _=>?_) (fun e=>by omega);refine t_if (fun e=>?_) (fun e=>?_)
  ·refine t_pu (c3782 n (by omega)) ?_;refine Qs ?_;refine gI ?_;refine Jt ?_;refine gZ ?_;exact Qh ⟨LH.le_refl _,rfl⟩
  ·exact Qj ⟨rfl,rfl,by omega⟩
 rintro vs _ ⟨rfl,rfl,h1⟩;refine Jt ?_;refine gZ ?_;refine Yh fun r b a d hr=>?_;rw[wrapU64n (by omega)];refine Ja (fun vs h'=>vs=[.int .u64 (n:Int)]/\b=h') ?_ ?_
 ·refine t_if (fun e=>by omega) (fun _=>?_);exact Qj ⟨rfl,rfl⟩
 rintro vs _ ⟨rfl,rfl⟩;refine gZ ?_;refine t_pu (c3783 (hp.le a.1) n h1 c) ?_;refine gZ ?_;have hlen:(decDigits n).length=3\/(decDigits n).length=4:=by
  by_cases h3:n<1000
  ·rw[dig3d h1 h3];exact .inl rfl
  ·rw[dig4d (by omega) c];exact .inr rfl
 have hw:wrap .i64 (1+((decDigits n).length:Int))=((1+(decDigits n).length:Nat):Int):=by
  rw[Qm (by omega) (by omega)];omega
 rw[hw];have f:1+(decDigits n).length-1=(decDigits n).length:=by omega
 have g:Addr.add ⟨r,0,none⟩ (1*1)=⟨r,1,none⟩:=by rw[Qa]
 refine t_sliceArrM (i:=1) und24 infU (by omega) (by omega) (by omega) ?_;rw[f,g];refine gZ ?_;refine Jp (c3784 h1 c hr rfl) ?_;rintro _ h2 ⟨rfl,j,hc⟩;refine gZ ?_;refine t_if (fun e=>by omega) (fun _=>?_);refine t_sliceArrM (i:=1) und24 infU (by omega) (by omega) (by omega) ?_;rw[f,g];refine gZ ?_;refine Gt undBy undS undU rfl hc ?_;refine Qs ?_;exact Qh ⟨H7 a (j.ov d),rfl⟩
theorem c3767(hp:PowT 5 h.get)(n:Nat)(b:n<10000):Gr Tryz.prog 148 #[.int .i64 (n:Int)] h fun r _=>r=.string (str (decDigits n)):=by
 refine w3767 Qr ?_;refine t_gr (c3775 hp n b) ?_;rintro _ h1 a rfl;refine Qs ?_;exact Qh ⟨a,rfl⟩
theorem c3741(hp:PowT 5 h.get)(n:Nat)(b:n<10000):Gr Tryz.prog 86 #[.int .i64 (n:Int)] h fun r _=>r=.string (str (decDigits n)):=by
 refine w3741 Qr ?_;refine t_gr (c3767 hp n b) ?_;rintro _ h1 a rfl;refine Qs ?_;exact Qh ⟨a,rfl⟩
end Go.Y.Txt
end
section
namespace Go.TM.Tp
def Sm(n:Int):Prop:=0<=n/\n<10000
theorem Sm.fits{n:Int}(h:Sm n):Fits n:=⟨h.1,by have:=h.2;omega⟩
end Go.TM.Tp
namespace Go.Y.Txt
open Go.TM.Tp
open Go.Lib (decDigits)
attribute [local irreducible] T.wp CV FWK
theorem li_is(l:List Int):joinS 44 (l.map di)=li l:=by
 unfold li listS;rw[List.map_map];rfl
end Go.Y.Txt
end
section
namespace Go.TM.Tp
theorem join_small{c:UInt8}{fs:List Bs}(a:∀ f∈fs,f.length<=60)(b:fs.length<=4):(joinS c fs).length<=2^28:=by
 have:=G2 (c:=c) a;have:fs.length*(60+1)<=4*61:=Nat.mul_le_mul b (by omega);omega
end Go.TM.Tp
namespace Go.Y.Txt
open Go.TM.Tp
open Go.Lib (decDigits)
attribute [local irreducible] T.wp CV FWK
end Go.Y.Txt
end
section
namespace Go.Y
set_option maxHeartbeats 0
set_option linter.unusedVariables false
variable {X:XP} {h:LH} {A:Value->LH->Prop}
variable {a b c d e f g i j k l m:Int}{n o p q r s t u v w x y z:Nat}{B C D E F G H I J K L M:Option Addr}
theorem w3709:FX X 16 #[.agg #[a,b,c,d,e,f,.slice B n o]] h A (.cI 64 #[.agg #[a,b,c,d,e,f,.slice B n o]] fun g=>bif g != 0 then .rt (.tuple #[.string { data:=#[] },g]) else .new 80 #[.pointer none,.slice none 0 0] fun m=>.sem false (Instr.buildSlice 47 6 #[(0,.int .i64 a),(1,.int .i64 b),(2,.int .i64 c),(3,.int .i64 d),(4,.int .i64 e),(5,.int .i64 f)]) fun i=>.unS i fun j g l=>.cl 66 #[.slice j g l] fun i=>.unS i fun j g l=>.callv false (.func (Fn.func 65) #[] #[.pointer (some ⟨m,0,none⟩)]) #[.string { data:=#[116,114,101,97,116,121] },.slice j g l] fun i=>.unTup i fun s=>.unNil s (.loop [.int .i64 0] (fun k=>.pi k fun g k=>.unNil k (bif decide (g<(↑n:Int)) then .need (0<=g/\g<(↑n:Int)) (.someA B fun j=>.li ((j.add (g.toNat*5)).add 0) fun q=>.li ((j.add (g.toNat*5)).add 1) fun M=>.li ((j.add (g.toNat*5)).add 2) fun N=>.loadS ((j.add (g.toNat*5)).add 3) fun z w l=>.li ((j.add (g.toNat*5)).add 4) fun O=>.need (0<=q/\q<(↑7:Int)) (.loadStr ((Addr.add { block:=1,off:=0 } (q.toNat*4)).add 0) fun p=>.loadB ((Addr.add { block:=1,off:=0 } (q.toNat*4)).add 1) fun F=>.loadB ((Addr.add { block:=1,off:=0 } (q.toNat*4)).add 2) fun G=>.loadV ((Addr.add { block:=1,off:=0 } (q.toNat*4)).add 3) fun i=>bif isOne i then .sem false (Instr.buildSlice 47 1 #[(0,.int .i64 M)]) fun i=>.unS i fun j x u=>.blk (bif F then .sem false (Instr.buildSlice 47 1 #[(0,.int .i64 N)]) fun i=>.unS i fun r g l=>.sem false (Builtin.append_ #[47,47] 47 #[.slice j x u,.slice r g l]) fun i=>.unS i fun j g l=>.ag [.slice j g l] else .ag [.slice j x u]) (fun k=>.popS k fun j t v k=>.unNil k (.blk (bif G then .sem false (Instr.buildSlice 47 1 #[(0,.int .i64 O)]) fun i=>.unS i fun r g l=>.sem false (Builtin.append_ #[47,47] 47 #[.slice j t v,.slice r g l]) fun i=>.unS i fun j g l=>.ag [.slice j g l] else .ag [.slice j t v]) (fun k=>.popS k fun j y H k=>.unNil k (.cl 66 #[.slice j y H] fun i=>.unS i fun j Q I=>.nds [.S z w l,.pp 8 3,.val (.string p),.pp 9 0,.val (.func (Fn.func 65) #[] #[.pointer (some ⟨m,0,none⟩)])] (.cl 66 #[.slice z w l] fun i=>.unS i fun r J l=>.nds [.pp 8 3,.val (.string p),.pp 9 0,.val (.func (Fn.func 65) #[] #[.pointer (some ⟨m,0,none⟩)])] (.cl 36 #[.slice r J l,.string { data:=#[44] }] fun i=>.unStr i fun R=>.nds [.pp 8 3,.val (.string p),.pp 9 0,.val (.func (Fn.func 65) #[] #[.pointer (some ⟨m,0,none⟩)])] (.sem false (Instr.buildSlice 81 1 #[(0,.string R)]) fun i=>.unS i fun E K l=>.nds [.pp 8 3,.val (.string p),.pp 9 0,.val (.func (Fn.func 65) #[] #[.pointer (some ⟨m,0,none⟩)])] (.sem false (Builtin.append_ #[81,81] 81 #[.slice j Q I,.slice E K l]) fun i=>.unS i fun j L l=>.nds [.pp 8 3,.val (.string p),.pp 9 0,.val (.func (Fn.func 65) #[] #[.pointer (some ⟨m,0,none⟩)])] (.callv false (.func (Fn.func 65) #[] #[.pointer (some ⟨m,0,none⟩)]) #[.string p,.slice j L l] fun i=>.unTup i fun s=>.unNil s (.nds [.pp 8 3,.pp 9 0] (.ag [.int .i64 (wrap .i64 (g+1))]))))))))) (fun k=>.popS k fun j y l k=>.unNil k (.rn [g])) fun C D=>.fail)) (fun k=>.popS k fun j t l k=>.unNil k (.rn [g])) fun C D=>.fail else .fail)) else .bk [g])) (fun k=>.pi k fun g k=>.unNil k (.cI 40 #[.pointer (some ⟨m,0,none⟩)] fun g=>bif decide (g>60000) then .rt (.tuple #[.string { data:=#[] },.int .i64 2]) else .cl 41 #[.pointer (some ⟨m,0,none⟩)] fun i=>.unStr i fun p=>.rt (.tuple #[.string p,.int .i64 0]))) (fun k=>.pi k fun g k=>.unNil k (.rt (.tuple #[.string { data:=#[] },.int .i64 0]))) fun C D=>.fail)):=fk [1,8,9] [⟨0,[(36,.int .i64)],[1],[],[],[]⟩] [⟨16,[(10,.slice)],[1,8,9],[],[],[]⟩,⟨14,[(10,.slice)],[1,8,9],[],[],[]⟩] Tryz.f16
theorem w3702{l:ByteArray}:FX X 5 #[.string l,.agg #[a,b,c,d,e,f,.slice B n o]] h A (.blk (.cB 14 #[.agg #[a,b,c,d,e,f,.slice B n o]] fun j=>bif j then .cB 15 #[] fun j=>.rn [j] else .sem false (Builtin.len_ #[9] 3 #[.string l]) fun i=>.ui i fun k=>bif decide (k>2000) then .cB 15 #[] fun j=>.rn [j] else .ag [false]) (fun g=>.popB g fun j g=>.unNil g (.cT 16 #[.agg #[a,b,c,d,e,f,.slice B n o]] fun i g=>.unStr i fun p=>.unCons g fun i g=>.ui i fun k=>.unNil g (.cT 17 #[.agg #[a,b,c,d,e,f,.slice B n o]] fun i g=>.unStr i fun q=>.unCons g fun i g=>.ui i fun w=>.unNil g (.blk (.sem false (Sem.bind (eqGuard BinOp.neq 9 (Operand.tmp 31) (Operand.tmp 32) (.string p) (.string q)) fun k0=>binOp BinOp.neq 9 (.string p) (.string q)) fun i=>.unB i fun t=>bif t then .rn [false] else bif k != w then .rn [false] else .ag [j]) (fun g=>.popB g fun j g=>.unNil g (.cT 18 #[.string l] fun i g=>.unAgg i fun m=>.pi m fun k R=>.pi R fun I Z=>.pi Z fun J a0=>.pi a0 fun K b0=>.pi b0 fun L c0=>.pi c0 fun M d0=>.popS d0 fun r N u e0=>.unNil e0 (.unCons g fun i g=>.ui i fun O=>.unCons g fun i g=>.ui i fun Q=>.unNil g (.cT 19 #[.string l] fun i g=>.unAgg i fun m=>.pi m fun x f0=>.pi f0 fun y g0=>.pi g0 fun z S=>.pi S fun C U=>.pi U fun D V=>.pi V fun E W=>.popS W fun s F v Y=>.unNil Y (.unCons g fun i g=>.ui i fun G=>.unCons g fun i g=>.ui i fun H=>.unNil g (.cB 20 #[.agg #[k,I,J,K,L,M,.slice r N u],.agg #[x,y,z,C,D,E,.slice s F v]] fun j=>bif j then bif O==G then bif Q==H then .cB 15 #[] fun j=>.rt (.bool j) else .rt (.bool false) else .rt (.bool false) else .rt (.bool false))))))) (fun g=>.popB g fun j g=>.unNil g (.rt (.bool j))) fun i0 j0=>.fail)))) (fun g=>.popB g fun j g=>.unNil g (.rt (.bool j))) fun i0 j0=>.fail):=fk [3,9,11] [] [⟨7,[(4,.bool)],[3],[],[],[]⟩,⟨3,[(4,.bool)],[3],[],[],[]⟩] Tryz.f5
end Go.Y
end
