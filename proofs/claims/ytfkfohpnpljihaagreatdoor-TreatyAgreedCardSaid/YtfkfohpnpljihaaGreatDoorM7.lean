/- Contracts and laws for the proof, joined by a program. No condition. -/
import Derived.Test.YtfkfohpnpljihaaGreatDoorM6
set_option linter.all false
noncomputable section
open Go Go.Conc Go.TM Go.Proofs
set_option maxRecDepth 100000
open Go.IntKind (wrap)
namespace Go.TM
section
variable {sy:Sy} {n0:Nat} {w0:World} {C:Nat} {cs:Nat->Cells} {ng:Nat} {gone:Nat->Prop} {w:World} {t:Trace}
variable {c:Array Value}{e:TypeId}
theorem MemW.sync(m:MemW sy n0 w0 C cs ng gone w t){g:Nat}(c:g<ng)(f:¬ gone g){u:Trace}(hu:∀ op∈u,SyncOp sy g op){Wg:Nat}(a:sy.sp Wg)(d:n0<=Wg){w':World}
 (h:w'.heap.size=w.heap.size)(hw:∀ r,r≠Wg->w'.heap[r]?=w.heap[r]?)(i:w'.os=w.os)(l:w'.tape=w.tape)(k:w'.output=w.output) :
  MemW (sy.deafen g (Deaf (t++u) g)) n0 w0 C cs ng gone w' (t++u):=by
 refine⟨?_,m.part,m.whole,by rw[h];exact m.ti.sync c f hu,m.off,by rw[h];exact m.cl,m.out,m.pos,?_,m.low,by rw[h];exact m.size,i.trans m.os,l.trans m.tape,k.trans m.output⟩
 ·intro j r b o hr;have:r≠Wg:=by rintro rfl;rw[m.off r a j]at hr;cases hr
  rw[hw r this];exact m.fits j r b o hr
 ·intro r hr;have:r≠Wg:=fun e=>by subst e;exact absurd hr (Nat.not_lt.2 d)
  rw[hw r this];exact m.base r hr
def partedW(c0:Cells)(C Wg:Nat)(c:Array Value)(e:TypeId):Cells:=fun r=>if r=C then some (true,.pending c e) else if r=Wg then none else c0 r
theorem Mem.toW{chans:List Nat}(m:Mem sy n0 w0 chans cs ng gone w t)(u:chans=[]){Wg:Nat}(hCW:C≠Wg){o:Obj}(hC:cs 0 C=some (true,.cells c e (0,0)))(hc:∀ (i:Nat) (v:Value),c[i]?=some v->notHole v=true)(hW:cs 0 Wg=some (true,o)) :
  MemW (sy.open_ Wg) n0 w0 C (fun i=>if i=0 then partedW (cs 0) C Wg c e else cs i) ng gone w t:=by
 subst u;have s:∀ j,j≠0->cs j C=none:=fun j l=>m.apart (Ne.symm l) hC;have p:∀ j,j≠0->cs j Wg=none:=fun j l=>m.apart (Ne.symm l) hW;have hold:∀ g (k:Key) b,holdsP (fun i=>if i=0 then partedW (cs 0) C Wg c e else cs i) g k=some b->holdsC [] cs g k=some b/\k.1≠Wg:=by
  rintro g ⟨r,q⟩ b hb;obtain⟨x,d,_,h⟩:=Zd hb;by_cases a:g=0
  ·subst a;simp only[if_true,partedW]at d;split at d
   ·rename_i f;cases d;subst f;refine⟨?_,hCW⟩;rw[Q6 m.free hC];exact congrArg some h
   ·split at d
    ·cases d
    ·rename_i h1 h2;refine⟨?_,h2⟩;rw[Q6 m.free d,h]
  ·simp only[a,if_false]at d;refine⟨by rw[Q6 m.free d,h],fun f=>?_⟩;simp only at f;subst f;rw[p g a]at d;cases d
 refine⟨?_,?_,?_,m.ti.special (r:=Wg) (fun q=>Q6 m.free hW) hold,?_,Fits.lt (m.fits 0) hC,?_,m.pos,m.base,?_,m.size,m.os,m.tape,m.output⟩
 ·intro j;by_cases a:j=0
  ·simp only[a,if_true];intro r b n hr;unfold partedW at hr;split at hr
   ·rename_i f;subst f;cases hr;obtain⟨A,h1,h2⟩:=m.fits 0 r _ _ hC;cases h2;exact⟨_,h1,c,rfl,rfl,fun i v hv _=>hv⟩
   ·split at hr
    ·cases hr
    ·exact m.fits 0 r b n hr
  ·simp only[a,if_false];exact m.fits j
 ·intro j b n hr;by_cases a:j=0
  ·simp only[a,if_true,partedW]at hr;cases hr;exact⟨rfl,c,e,rfl⟩
  ·simp only[a,if_false]at hr;rw[s j a]at hr;cases hr
 ·intro j r b n z hr;by_cases a:j=0
  ·simp only[a,if_true,partedW,if_neg z]at hr;split at hr
   ·cases hr
   ·exact m.whole 0 r b n hr
  ·simp only[a,if_false]at hr;exact m.whole j r b n hr
 ·rintro r (hr|rfl) j
  ·have y:∀ j,cs j r=none:=by
    intro j;cases d:cs j r with
    | none=>rfl
    | some x=>exact absurd hr (m.ti.held j (r,none) _ (Q6 m.free d)).2
   by_cases a:j=0
   ·simp only[a,if_true,partedW];have:r≠C:=by rintro rfl;rw[y 0]at hC;cases hC
    rw[if_neg this];split
    ·rfl
    ·exact y 0
   ·simp only[a,if_false];exact y j
  ·by_cases a:j=0
   ·simp only[a,if_true,partedW,if_neg (Ne.symm hCW)]
   ·simp only[a,if_false];exact p j a
 ·intro j l r;have a:j≠0:=fun e=>by subst e;exact absurd m.pos (Nat.not_lt.2 l)
  simp only[a,if_false];exact m.out j l r
 ·intro j r n hr;by_cases a:j=0
  ·simp only[a,if_true,partedW]at hr;split at hr
   ·rename_i f;subst f;exact m.low 0 (r,none) (Q6 m.free hC)
   ·split at hr
    ·cases hr
    ·exact m.low 0 (r,none) (Q6 m.free hr)
  ·simp only[a,if_false]at hr;exact m.low j (r,none) (Q6 m.free hr)
theorem MemW.toMem(m:MemW sy n0 w0 C cs ng gone w t)(J:∀ g,sy.dp g=0)(hC:cs 0 C=some (true,.pending c e))(hc:∀ (i:Nat) (v:Value),c[i]?=some v->notHole v=true)(u:∀ j,j≠0->cs j C=none)(D:n0<=C)
 (s:∀ q p b,Touches t p (C,q) b->Knows t p 0) :
  Mem sy n0 w0 [] (fun i=>if i=0 then (cs 0).upd C (true,.cells c e (0,0)) else cs i) ng gone w t:=by
 have F:¬ sy.sp C:=fun h=>by rw[m.off C h 0]at hC;cases hC
 have y:w.heap[C]?=some (.cells c e (0,0)):=by
  obtain⟨L,h1,K,rfl,G,E⟩:=m.fits 0 C _ _ hC;rw[h1];congr 2;refine Array.ext G fun i h2 h3=>?_;have H:c[i]?=some c[i]:=Array.getElem?_eq_getElem h3;have:=E i _ H (hc i _ H);rw[Array.getElem?_eq_getElem h2]at this;exact Option.some.inj this
 have hold:∀ g (k:Key) b,holdsC [] (fun i=>if i=0 then (cs 0).upd C (true,.cells c e (0,0)) else cs i) g k=some b->(k.1≠C/\holdsP cs g k=some b)\/(k.1=C/\g=0/\b=true):=by
  rintro g ⟨r,q⟩ b hb;unfold holdsC at hb;simp only[List.not_mem_nil,and_false,if_false]at hb;by_cases l:g=0
  ·subst l;simp only[if_true]at hb;by_cases a:r=C
   ·subst a;rw[Qd]at hb;exact .inr ⟨rfl,rfl,(Option.some.inj hb).symm⟩
   ·rw[Qk _ _ a]at hb;obtain⟨x,f,n⟩:=Option.map_eq_some_iff.1 hb;exact .inl ⟨a,by rw[Jb f (Z8 (m.whole 0 r x.1 x.2 a f) q),n]⟩
  ·simp only[l,if_false]at hb;obtain⟨x,f,n⟩:=Option.map_eq_some_iff.1 hb;have a:r≠C:=by rintro rfl;rw[u g l]at f;cases f
   exact .inl ⟨a,by rw[Jb f (Z8 (m.whole g r x.1 x.2 a f) q),n]⟩
 refine⟨?_,?_,J,?_,(fun _ hc=>nomatch hc),(fun _ hc=>nomatch hc),?_,m.pos,m.base,?_,m.size,m.os,m.tape,m.output⟩
 ·intro j;by_cases l:j=0
  ·simp only[l,if_true];intro r b o hr;by_cases a:r=C
   ·subst a;rw[Qd]at hr;cases hr;exact⟨_,y,rfl⟩
   ·rw[Qk _ _ a]at hr;exact m.fits 0 r b o hr
  ·simp only[l,if_false];exact m.fits j
 ·intro j r b o hr;by_cases l:j=0
  ·simp only[l,if_true]at hr;by_cases a:r=C
   ·subst a;rw[Qd]at hr;cases hr;exact fun _=>id
   ·rw[Qk _ _ a]at hr;exact m.whole 0 r b o a hr
  ·simp only[l,if_false]at hr;have a:r≠C:=by rintro rfl;rw[u j l]at hr;cases hr
   exact m.whole j r b o a hr
 ·have h:=m.ti;refine⟨h.hears,h.who,h.spl,h.lt,?_,?_,?_,?_,h.norace,h.spc,h.said,h.acc,h.handed,h.norel⟩
  ·intro g k b hb;rcases hold g k b hb with⟨_,h1⟩|⟨d,_,_⟩
   ·exact h.held g k b h1
   ·rw[d];exact⟨m.cl,F⟩
  ·intro g g' k z hb;cases f:holdsC [] (fun i=>if i=0 then (cs 0).upd C (true,.cells c e (0,0)) else cs i) g' k with
   | none=>rfl
   | some b =>
    exfalso;rcases hold g k true hb with⟨d,h1⟩|⟨d,rfl,_⟩
    ·rcases hold g' k b f with⟨_,h2⟩|⟨B,_,_⟩
     ·rw[h.excl g g' k z h1]at h2;cases h2
     ·exact d B
    ·rcases hold g' k b f with⟨B,_⟩|⟨_,rfl,_⟩
     ·exact B d
     ·exact z rfl
  ·rintro g ⟨r,q⟩ hb p b A;rcases hold g (r,q) true hb with⟨_,h1⟩|⟨d,rfl,_⟩
   ·exact h.own g (r,q) h1 p b A
   ·simp only at d;subst d;exact s q p b A
  ·rintro g ⟨r,q⟩ b hb p A;rcases hold g (r,q) b hb with⟨_,h1⟩|⟨d,rfl,_⟩
   ·exact h.shared g (r,q) b h1 p A
   ·simp only at d;subst d;exact s q p true A
 ·intro j I r;have l:j≠0:=fun e=>by subst e;exact absurd m.pos (Nat.not_lt.2 I)
  simp only[l,if_false];exact m.out j I r
 ·rintro j ⟨r,q⟩ hb;rcases hold j (r,q) true hb with⟨_,h1⟩|⟨d,_,_⟩
  ·obtain⟨x,f,_,n⟩:=Zd h1;exact m.low j r x.2 (by simp only at f;rw[f,<- n])
  ·simp only at d;subst d;exact D
end
section
variable {sy:Sy} {n0:Nat} {w0:World} {C:Nat} {cs:Nat->Cells} {ng:Nat} {gone:Nat->Prop} {w:World} {t:Trace}
def Sy.grant(sy:Sy)(g r:Nat):Sy:=⟨sy.sp,fun g' r'=>sy.use g' r'\/(g'=g/\r'=r),sy.dp⟩
variable {c:Array Value}{e:TypeId}{i:Nat}
theorem TI.grant{n:Nat}{hold:Nat->Key->Option Bool}(h:TI sy t n ng hold gone){g r:Nat}(hr:sy.sp r)(a:∀ p k b,k.1=r->Touches t p k b->Plain t p->Knows t p g):TI (sy.grant g r) t n ng hold gone:=by
 refine⟨h.hears,h.who,h.spl,h.lt,h.held,h.excl,h.own,h.shared,h.norace,h.spc,h.said,?_,h.handed,h.norel⟩;rintro g' c (h1|⟨rfl,rfl⟩)
 ·exact h.acc g' c h1
 ·exact⟨hr,a⟩
theorem Wp(h:¬ isHole (.pending c e) i):∃ v,c[i]?=some v/\notHole v=true:=by
 apply Classical.byContradiction;intro b;refine h fun v hv=>?_;cases a:notHole v with
 | false=>rfl
 | true=>exact absurd ⟨v,hv,a⟩ b
theorem Kh{v:Value}(hv:c[i]?=some v)(a:notHole v=true):¬ isHole (.pending c e) i:=by
 intro h;have:=h v hv;rw[a]at this;cases this
theorem MemW.spawn(m:MemW sy n0 w0 C cs ng gone w t)(F:Nat->Bool){hc c0:Cells}(A:∀ r x,r≠C->hc r=some x->x.1=false/\freezeC F (cs 0) r=some x)(h0:∀ r,r≠C->c0 r=freezeC F (cs 0) r)
 {c cc c1:Array Value}{e:TypeId}(hC:cs 0 C=some (true,.pending c e))(L:hc C=some (true,.pending cc e))(E:c0 C=some (true,.pending c1 e))(s1:cc.size=c.size)(s2:c1.size=c.size)
 (k1:∀ (i:Nat) (v:Value),cc[i]?=some v->notHole v=true->c[i]?=some v/\isHole (.pending c1 e) i)(k2:∀ (i:Nat) (v:Value),c1[i]?=some v->notHole v=true->c[i]?=some v)
 {x y:MemOp}(U:x.g=0/\x.act=.go ng)(P:y.g=ng/\y.act=.start){gone':Nat->Prop}(hg:∀ i,gone' i->gone i)(X:∀ i,gone i->gone' i)(g0:¬ gone 0)(gn:¬ gone ng)(d0:sy.dp 0=0)(dn:sy.dp ng=0){Wg:Nat}(hu:sy.use 0 Wg) :
  MemW (sy.grant ng Wg) n0 w0 C (fun i=>if i=ng then hc else if i=0 then c0 else cs i) (ng+1) gone' w (t++#[x,y]):=by
 have Z:ng≠0:=Nat.ne_of_gt m.pos;have K:∀ r z,freezeC F (cs 0) r=some z->∃ b,cs 0 r=some (b,z.2)/\(z.1=true->b=true):=by
  intro r z s;unfold freezeC at s;split at s
  ·rename_i b o he;cases s;exact⟨b,he,fun hb=>by simp only[Bool.and_eq_true]at hb;exact hb.1⟩
  ·cases s
 -- l0 is held
 have O:∀ (k:Key) b,holdsP (fun i=>if i=ng then hc else if i=0 then c0 else cs i) 0 k=some b->∃ b',holdsP cs 0 k=some b'/\(b=true->b'=true):=by
  rintro⟨r,q⟩ b hb;obtain⟨z,s,n,G⟩:=Zd hb;simp only[show ¬ (0=ng) from fun e=>Z e.symm,if_false,if_true]at s n;by_cases d:r=C
  ·subst d;rw[E]at s;cases s;cases q with
   | none=>exact absurd ⟨_,Kk c1 e⟩ n
   | some i =>
    obtain⟨v,hv,D⟩:=Wp (e:=e) n;exact⟨true,Jb (q:=some i) hC (Kh (e:=e) (k2 i v hv D) D),fun _=>rfl⟩
  ·rw[h0 r d]at s;obtain⟨b1,h1,h2⟩:=K r z s;exact⟨b1,Jb h1 (Z8 (m.whole 0 r _ _ d h1) q),fun W=>h2 (G.trans W)⟩
 have l:∀ (k:Key) b,holdsP (fun i=>if i=ng then hc else if i=0 then c0 else cs i) ng k=some b ->
   (b=false/\(∃ b',holdsP cs 0 k=some b')/\holdsP (fun i=>if i=ng then hc else if i=0 then c0 else cs i) 0 k≠some true)\/(b=true/\holdsP cs 0 k=some true/\holdsP (fun i=>if i=ng then hc else if i=0 then c0 else cs i) 0 k=none):=by
  rintro⟨r,q⟩ b hb;obtain⟨z,s,n,G⟩:=Zd hb;simp only[if_true]at s n;by_cases d:r=C
  ·subst d;rw[L]at s;cases s;cases q with
   | none=>exact absurd ⟨_,Kk cc e⟩ n
   | some i =>
    obtain⟨v,hv,D⟩:=Wp (e:=e) n;obtain⟨h1,h2⟩:=k1 i v hv D;refine .inr ⟨G.symm,Jb (q:=some i) hC (Kh (e:=e) h1 D),?_⟩;cases k0:holdsP (fun i=>if i=ng then hc else if i=0 then c0 else cs i) 0 (r,some i) with
    | none=>rfl
    | some b1 =>
     obtain⟨z1,u,Y,_⟩:=Zd k0;simp only[show ¬ (0=ng) from fun e=>Z e.symm,if_false,if_true]at u;rw[E]at u;cases u;exact absurd h2 Y
  ·obtain⟨h1,h2⟩:=A r z d s;obtain⟨b1,h3,_⟩:=K r z h2;refine .inl ⟨G.symm.trans h1,⟨b1,Jb h3 (Z8 (m.whole 0 r _ _ d h3) q)⟩,fun I=>?_⟩;obtain⟨z1,u,_,hb1⟩:=Zd I;simp only[show ¬ (0=ng) from fun e=>Z e.symm,if_false,if_true]at u;rw[h0 r d,h2]at u;cases u;rw[h1]at hb1;cases hb1
 have B:∀ i,i≠ng->i≠0->holdsP (fun i=>if i=ng then hc else if i=0 then c0 else cs i) i=holdsP cs i:=by
  intro i h1 h2;funext k;simp only[holdsP,h1,h2,if_false]
 have hold:∀ i,i≠ng->∀ (k:Key) b,holdsP (fun i=>if i=ng then hc else if i=0 then c0 else cs i) i k=some b->∃ b',holdsP cs i k=some b'/\(b=true->b'=true):=by
  intro i M k b hb;by_cases a:i=0
  ·subst a;exact O k b hb
  ·rw[B i M a]at hb;exact⟨b,hb,id⟩
 have kn:∀ p,Knows t p 0->Knows (t++#[x,y]) p ng:=by
  intro p h;have:=Knows.spawn (x:=x) (y:=y) (by rw[U.1];exact h) (by rw[U.2,P.1]) P.2 (by rw[U.1,m.ti.hears 0 g0,d0]) (by rw[P.1,m.ti.hears ng gn,dn]);rw[P.1]at this;exact this
 have un:∀ op∈(#[x,y]:Trace),op.act.touch?=none/\(∀ mk,op.act≠.mark mk)/\op.g<ng+1:=by
  intro op H;simp only[List.mem_toArray,List.mem_cons,List.not_mem_nil,or_false]at H;rcases H with rfl|rfl
  ·rw[U.2];exact⟨rfl,nofun,by rw[U.1];exact Nat.succ_pos _⟩
  ·rw[P.2];exact⟨rfl,nofun,by rw[P.1];exact Nat.lt_succ_self _⟩
 obtain⟨j0,Q⟩:=m.ti.acc 0 Wg hu;refine⟨?_,?_,?_,?_,?_,m.cl,?_,Nat.succ_pos _,m.base,?_,m.size,m.os,m.tape,m.output⟩
 ·intro i r b o hr;by_cases f:i=ng
  ·simp only[f,if_true]at hr;by_cases d:r=C
   ·subst d;rw[L]at hr;cases hr;obtain⟨o1,h1,V,rfl,h2,h3⟩:=m.fits 0 r _ _ hC;exact⟨_,h1,V,rfl,h2.trans s1.symm,fun i v hv n=>h3 i v (k1 i v hv n).1 n⟩
   ·obtain⟨b1,h3,_⟩:=K r _ (A r _ d hr).2;exact m.fits 0 r _ _ h3
  ·simp only[f,if_false]at hr;by_cases a:i=0
   ·simp only[a,if_true]at hr;by_cases d:r=C
    ·subst d;rw[E]at hr;cases hr;obtain⟨o1,h1,V,rfl,h2,h3⟩:=m.fits 0 r _ _ hC;exact⟨_,h1,V,rfl,h2.trans s2.symm,fun i v hv n=>h3 i v (k2 i v hv n) n⟩
    ·rw[h0 r d]at hr;obtain⟨b1,h3,_⟩:=K r _ hr;exact m.fits 0 r _ _ h3
   ·simp only[a,if_false]at hr;exact m.fits i r b o hr
 ·intro i b o hr;by_cases f:i=ng
  ·simp only[f,if_true]at hr;rw[L]at hr;cases hr;exact⟨rfl,_,_,rfl⟩
  ·simp only[f,if_false]at hr;by_cases a:i=0
   ·simp only[a,if_true]at hr;rw[E]at hr;cases hr;exact⟨rfl,_,_,rfl⟩
   ·simp only[a,if_false]at hr;exact m.part i b o hr
 ·intro i r b o d hr;by_cases f:i=ng
  ·simp only[f,if_true]at hr;obtain⟨b1,h3,_⟩:=K r _ (A r _ d hr).2;exact m.whole 0 r _ _ d h3
  ·simp only[f,if_false]at hr;by_cases a:i=0
   ·simp only[a,if_true]at hr;rw[h0 r d]at hr;obtain⟨b1,h3,_⟩:=K r _ hr;exact m.whole 0 r _ _ d h3
   ·simp only[a,if_false]at hr;exact m.whole i r b o d hr
 ·refine TI.grant (m.ti.deal un (Nat.le_succ _) X ?_ ?_ ?_ ?_ ?_) j0 ?_
  ·intro i k b hb;by_cases f:i=ng
   ·subst f;rcases l k b hb with⟨_,⟨b',h1⟩,_⟩|⟨_,h1,_⟩
    ·exact m.ti.held 0 k b' h1
    ·exact m.ti.held 0 k _ h1
   ·obtain⟨b',h1,_⟩:=hold i f k b hb;exact m.ti.held i k b' h1
  ·intro i j k R hb;cases N:holdsP (fun i=>if i=ng then hc else if i=0 then c0 else cs i) j k with
   | none=>rfl
   | some b =>
    exfalso;by_cases f:i=ng
    ·subst f;rcases l k true hb with⟨h,_⟩|⟨_,h1,h2⟩
     ·cases h
     ·by_cases a:j=0
      ·subst a;rw[h2]at N;cases N
      ·rw[B j (Ne.symm R) a]at N;rw[m.ti.excl 0 j k (Ne.symm a) h1]at N;cases N
    ·obtain⟨b',h1,h2⟩:=hold i f k true hb;cases h2 rfl;by_cases e2:j=ng
     ·subst e2;rcases l k b N with⟨_,⟨b2,h3⟩,I⟩|⟨_,h3,I⟩
      ·by_cases a:i=0
       ·subst a;exact I hb
       ·rw[m.ti.excl i 0 k a h1]at h3;cases h3
      ·by_cases a:i=0
       ·subst a;rw[hb]at I;cases I
       ·rw[m.ti.excl i 0 k a h1]at h3;cases h3
     ·obtain⟨b2,h3,_⟩:=hold j e2 k b N;rw[m.ti.excl i j k R h1]at h3;cases h3
  ·intro i k hb p b J;by_cases f:i=ng
   ·subst f;rcases l k true hb with⟨h,_⟩|⟨_,h1,_⟩
    ·cases h
    ·exact kn p (m.ti.own 0 k h1 p b J)
   ·obtain⟨b',h1,h2⟩:=hold i f k true hb;cases h2 rfl;exact(m.ti.own i k h1 p b J).append
  ·intro i k b hb p J;by_cases f:i=ng
   ·subst f;rcases l k b hb with⟨_,⟨b',h1⟩,_⟩|⟨_,h1,_⟩
    ·exact kn p (m.ti.shared 0 k b' h1 p J)
    ·exact kn p (m.ti.shared 0 k _ h1 p J)
   ·obtain⟨b',h1,_⟩:=hold i f k b hb;exact(m.ti.shared i k b' h1 p J).append
  ·intro i M p op h1 h2 h3;exact(m.ti.handed i (hg i M) p op h1 h2 h3).append
  ·intro p k b hk J a0;have S:=J.untouched fun op H=>(un op H).1;exact kn p (Q p k b hk S (a0.old S.lt))
 ·intro r hr i;have n:∀ j,cs j r=none:=m.off r hr;have d:r≠C:=by rintro rfl;rw[n 0]at hC;cases hC
  have hf:freezeC F (cs 0) r=none:=by unfold freezeC;rw[n 0]
  by_cases f:i=ng
  ·simp only[f,if_true];cases s:hc r with
   | none=>rfl
   | some z=>have:=(A r z d s).2;rw[hf]at this;cases this
  ·simp only[f,if_false];by_cases a:i=0
   ·simp only[a,if_true];rw[h0 r d];exact hf
   ·simp only[a,if_false];exact n i
 ·intro i M r;have f:i≠ng:=fun e=>by subst e;exact absurd M (Nat.not_le.2 (Nat.lt_succ_self _))
  have a:i≠0:=fun e=>by subst e;exact absurd M (Nat.not_le.2 (Nat.succ_pos _))
  simp only[f,a,if_false];exact m.out i (Nat.le_of_succ_le M) r
 ·intro i r o hr;by_cases f:i=ng
  ·simp only[f,if_true]at hr;by_cases d:r=C
   ·subst d;exact m.low 0 r _ hC
   ·have:=(A r _ d hr).1;cases this
  ·simp only[f,if_false]at hr;by_cases a:i=0
   ·simp only[a,if_true]at hr;by_cases d:r=C
    ·subst d;exact m.low 0 r _ hC
    ·rw[h0 r d]at hr;obtain⟨b1,h3,I⟩:=K r _ hr;cases I rfl;exact m.low 0 r _ h3
   ·simp only[a,if_false]at hr;exact m.low i r o hr
end
section
variable {sy:Sy} {n0:Nat} {w0:World} {C:Nat} {cs:Nat->Cells} {ng:Nat} {gone:Nat->Prop} {w:World} {t:Trace}
def withoutC(h:Cells)(c:Nat):Cells:=fun r=>if r=c then none else h r
open Classical in
def joined(cs:Nat->Cells)(C:Nat)(D:Nat->Prop)(cm:Array Value)(e:TypeId):Nat->Cells :=
 fun i=>if i=0 then (cs 0).upd C (true,.pending cm e) else if D i then withoutC (cs i) C else cs i
variable {D:Nat->Prop}{cm:Array Value}{e:TypeId}{i:Nat}
theorem Gn:joined cs C D cm e 0=(cs 0).upd C (true,.pending cm e):=by unfold joined;rw[if_pos rfl]
theorem joinedD(h0:i≠0)(h:D i):joined cs C D cm e i=withoutC (cs i) C:=by unfold joined;rw[if_neg h0,if_pos h]
theorem joinedN(h0:i≠0)(h:¬ D i):joined cs C D cm e i=cs i:=by unfold joined;rw[if_neg h0,if_neg h]
def ownC(cs:Nat->Cells)(C i:Nat)(k:Key):Prop:=k.1=C/\holdsP cs i k=some true
theorem MemW.join(m:MemW sy n0 w0 C cs ng gone w t){a:Addr}{D:Nat->Prop}(M:∀ i,D i->i≠0/\i<ng/\∃ p,Done t i a (ownC cs C i) p)(g0:¬ gone 0)(R:Deaf t 0=0)
 {op:MemOp}(J:op.g=0/\op.act=.mark (.acquire a)){c cm:Array Value}{e:TypeId}(hC:cs 0 C=some (true,.pending c e))(U:cm.size=c.size)
 (hm:∀ (i:Nat) (v:Value),cm[i]?=some v->notHole v=true->c[i]?=some v\/∃ j b B E,D j/\cs j C=some (b,.pending B E)/\B[i]?=some v){gone':Nat->Prop}(N:∀ g,gone' g↔gone g\/D g) :
  MemW sy n0 w0 C (joined cs C D cm e) ng gone' w (t++#[op]):=by
 have G:∀ (k:Key) b,holdsP (joined cs C D cm e) 0 k=some b->(k.1≠C/\holdsP cs 0 k=some b)\/(b=true/\holdsP cs 0 k=some true)\/(b=true/\∃ j,D j/\ownC cs C j k):=by
  rintro⟨r,q⟩ b hb;obtain⟨z,u,n,s⟩:=Zd hb;rw[Gn]at u;by_cases l:r=C
  ·subst l;simp only[Qd,Option.some.injEq]at u;subst u;cases q with
   | none=>exact absurd ⟨_,Kk cm e⟩ n
   | some i =>
    obtain⟨v,hv,y⟩:=Wp (e:=e) n;rcases hm i v hv y with h1|⟨j,b1,B,E,F,h1,h2⟩
    ·exact .inr (.inl ⟨s.symm,Jb (q:=some i) hC (Kh (e:=e) h1 y)⟩)
    ·cases (m.part j _ _ h1).1;exact .inr (.inr ⟨s.symm,j,F,rfl,Jb (q:=some i) h1 (Kh (e:=E) h2 y)⟩)
  ·simp only[Qk _ _ l]at u;exact .inl ⟨l,by rw[Jb u n,s]⟩
 have A:∀ i,i≠0->∀ (k:Key) b,holdsP (joined cs C D cm e) i k=some b->holdsP cs i k=some b/\(D i->k.1≠C):=by
  rintro i x ⟨r,q⟩ b hb;obtain⟨z,u,n,s⟩:=Zd hb;by_cases d:D i
  ·rw[joinedD x d]at u;unfold withoutC at u;split at u
   ·cases u
   ·rename_i l;exact⟨by rw[Jb u n,s],fun _=>l⟩
  ·rw[joinedN x d]at u;exact⟨by rw[Jb u n,s],fun h=>absurd h d⟩
 refine⟨?_,?_,?_,?_,?_,m.cl,?_,m.pos,m.base,?_,m.size,m.os,m.tape,m.output⟩
 ·intro i r b o hr;by_cases f:i=0
  ·subst f;rw[Gn]at hr;by_cases l:r=C
   ·subst l;rw[Qd]at hr;cases hr;obtain⟨W,h1,O,rfl,h2,h3⟩:=m.fits 0 r _ _ hC;refine⟨_,h1,O,rfl,h2.trans U.symm,fun i v hv n=>?_⟩;rcases hm i v hv n with H|⟨j,b1,B,E,F,H,h5⟩
    ·exact h3 i v H n
    ·obtain⟨X,L,c2,P,_,Q⟩:=m.fits j r _ _ H;rw[h1]at L;cases L;cases P;exact Q i v h5 n
   ·rw[Qk _ _ l]at hr;exact m.fits 0 r b o hr
  ·by_cases d:D i
   ·rw[joinedD f d]at hr;unfold withoutC at hr;split at hr
    ·cases hr
    ·exact m.fits i r b o hr
   ·rw[joinedN f d]at hr;exact m.fits i r b o hr
 ·intro i b o hr;by_cases f:i=0
  ·subst f;rw[Gn,Qd]at hr;cases hr;exact⟨rfl,_,_,rfl⟩
  ·by_cases d:D i
   ·rw[joinedD f d]at hr;unfold withoutC at hr;rw[if_pos rfl]at hr;cases hr
   ·rw[joinedN f d]at hr;exact m.part i b o hr
 ·intro i r b o l hr;by_cases f:i=0
  ·subst f;rw[Gn,Qk _ _ l]at hr;exact m.whole 0 r b o l hr
  ·by_cases d:D i
   ·rw[joinedD f d]at hr;unfold withoutC at hr;rw[if_neg l]at hr;exact m.whole i r b o l hr
   ·rw[joinedN f d]at hr;exact m.whole i r b o l hr
 ·refine m.ti.join (a:=a) (ks:=fun i=>ownC cs C i) (D:=D) (fun i x=>(M i x).2) g0 R m.pos J (fun g h=>(N g).2 (.inl h)) (fun g h=>(N g).1 h) ?_ ?_
  ·intro g k b hb;by_cases f:g=0
   ·subst f;rcases G k b hb with⟨_,h1⟩|⟨rfl,h1⟩|⟨rfl,j,F,h1⟩
    ·exact .inl h1
    ·exact .inl h1
    ·exact .inr ⟨rfl,j,F,h1,h1.2⟩
   ·exact .inl (A g f k b hb).1
  ·rintro i x k ⟨S,h1⟩ g I;cases V:holdsP (joined cs C D cm e) g k with
   | none=>rfl
   | some b =>
    obtain⟨h2,h3⟩:=A g I k b V;by_cases K:g=i
    ·subst K;exact absurd S (h3 x)
    ·rw[m.ti.excl i g k (Ne.symm K) h1]at h2;cases h2
 ·intro r hr i;have n:=m.off r hr;have l:r≠C:=by rintro rfl;rw[n 0]at hC;cases hC
  by_cases f:i=0
  ·subst f;rw[Gn,Qk _ _ l];exact n 0
  ·by_cases d:D i
   ·rw[joinedD f d];unfold withoutC;rw[if_neg l];exact n i
   ·rw[joinedN f d];exact n i
 ·intro i x r;have f:i≠0:=fun e=>by subst e;exact absurd m.pos (Nat.not_lt.2 x)
  by_cases d:D i
  ·exact absurd (M i d).2.1 (Nat.not_lt.2 x)
  ·rw[joinedN f d];exact m.out i x r
 ·intro i r o hr;by_cases f:i=0
  ·subst f;rw[Gn]at hr;by_cases l:r=C
   ·subst l;exact m.low 0 r _ hC
   ·rw[Qk _ _ l]at hr;exact m.low 0 r o hr
  ·by_cases d:D i
   ·rw[joinedD f d]at hr;unfold withoutC at hr;split at hr
    ·cases hr
    ·exact m.low i r o hr
   ·rw[joinedN f d]at hr;exact m.low i r o hr
end
end Go.TM
section
namespace Go.TM.WgW
open Go.ConcN Go.RowKit Go.Conc.Lib Go.ConcR.Gen Go.ConcN.Gen
open Go.ConcR (KK wgBlock WgAt stA smA rd wr mk DC0)
variable {L:WgLink}
def RM(ty:TypeId)(Wg:Nat)(w w₁:World):Prop:=WgLive ty Wg w->WgLive ty Wg w₁
theorem rm{ty:TypeId}{Wg:Nat}{w a:World}(h:WgLive ty Wg w)(r:RM ty Wg w a):WgLive ty Wg a:=r h
abbrev Idle(P:Program)(ty:TypeId)(Wg:Nat)(Stop:Goroutine->World->Prop)(g:Goroutine)(w:World):Prop:=∃ m,Goes P true (RM ty Wg) DC0 Stop m g w
def AtMark(P:Program)(m:Mark)(Next:Goroutine->World->Prop)(g:Goroutine)(w:World):Prop :=
 g.status=.running/\∃ g',stepG P true g w=.go g' w #[mk m]/\Next g' w
def RetOf(f:FuncId)(cs:List Frame)(g:Goroutine):Prop:=∃ fr,g=G fr cs/\fr.fn=f/\fr.mode=.returning/\fr.defers=[]/\fr.kind=.normal
def AtAdd1(P:Program)(ty:TypeId)(Wg:Nat)(Next:Nat->Goroutine->World->Prop)(g:Goroutine)(w:World):Prop :=
 g.status=.running/\∀ v:Nat,v<2147483647->WgAt ty Wg w (v*KK) 0 ->
  ∃ g',stepG P true g w=.go g' (w.setCell (stA Wg) (.int .u64 ((v+1)*KK))) #[rd (stA Wg),wr (stA Wg)]/\Next (v+1) g' (w.setCell (stA Wg) (.int .u64 ((v+1)*KK)))
def AtEn(P:Program)(ty:TypeId)(Wg:Nat)(cs:List Frame)(f:FuncId):Goroutine->World->Prop:=AtMark P .enable (Idle P ty Wg fun g _=>RetOf f cs g)
def AtLd(P:Program)(ty:TypeId)(Wg:Nat)(Next:Nat->Goroutine->World->Prop)(g:Goroutine)(w:World):Prop :=
 g.status=.running/\∀ v:Nat,v<2147483648->WgAt ty Wg w (v*KK) 0->∃ g',stepG P true g w=.go g' w #[rd (stA Wg)]/\Next v g' w
def AtCas(P:Program)(ty:TypeId)(Wg vs:Nat)(Hit Miss:Goroutine->World->Prop)(g:Goroutine)(w:World):Prop :=
 g.status=.running/\∀ v:Nat,v<2147483648->WgAt ty Wg w (v*KK) 0 ->
  (v=vs->∃ g',stepG P true g w=.go g' (w.setCell (stA Wg) (.int .u64 (v*KK+1))) #[rd (stA Wg),wr (stA Wg)]/\Hit g' (w.setCell (stA Wg) (.int .u64 (v*KK+1)))) /\
  (v≠vs->∃ g',stepG P true g w=.go g' w #[rd (stA Wg)]/\Miss g' w)
def AtSem(P:Program)(ty:TypeId)(Wg:Nat)(Next:Goroutine->World->Prop)(g:Goroutine)(w:World):Prop :=
 g.status=.running/\g.offers=none/\((∃ st,WgAt ty Wg w st 0)->stepG P true g w=.go { g with status:=.blocked } w #[]) /\
  (WgAt ty Wg w 0 1->∃ g',stepG P true g w=.go g' (w.setCell (smA Wg) (.int .u32 0)) (semEvents (smA Wg))/\Next g' (w.setCell (smA Wg) (.int .u32 0)))
def AtLd0(P:Program)(ty:TypeId)(Wg:Nat)(Next:Goroutine->World->Prop)(g:Goroutine)(w:World):Prop :=
 g.status=.running/\(WgAt ty Wg w 0 0->∃ g',stepG P true g w=.go g' w #[rd (stA Wg)]/\Next g' w)
def AtJoin(P:Program)(ty:TypeId)(Wg:Nat)(cs:List Frame)(f:FuncId):Goroutine->World->Prop :=
 AtMark P .enable (Idle P ty Wg (AtMark P (.acquire (stA Wg)) (Idle P ty Wg fun g _=>RetOf f cs g)))
def AtReg(P:Program)(ty:TypeId)(Wg:Nat)(cs:List Frame)(f:FuncId):Goroutine->World->Prop :=
 Idle P ty Wg (AtMark P (.write (smA Wg)) (Idle P ty Wg (AtSem P ty Wg (Idle P ty Wg (AtLd0 P ty Wg (Idle P ty Wg (AtJoin P ty Wg cs f)))))))
def Anch(L:WgLink)(Wg:Nat)(cs:List Frame)(g:Goroutine):Prop :=
 ∃ T:Array Value,g=G ((base L.wait).at ⟨T,[]⟩ [.code (L7 L),.inLoop (L7 L),.inBlock 0]) cs/\T.size=84/\T[0]?=some (.pointer (some ⟨Wg,0,none⟩))
end Go.TM.WgW
end
namespace Go.TM
section
open Go.ConcR (KK wgBlock WgAt stA smA rd wr mk)
def W0(ty:TypeId)(Wg:Nat)(w:World):Prop:=∃ st,WgAt ty Wg w st 0
inductive Life(P:Program)(ty:TypeId)(Wg:Nat):Nat->Nat->Goroutine->Prop
 | idle {s d:Nat} {g:Goroutine} (nx:World->Goroutine):2<=s->s<=7->g.status=.running->(∀ w,W0 ty Wg w->stepG P false g w=.go (nx w) w #[])->(∀ w,W0 ty Wg w->Life P ty Wg s d (nx w))->Life P ty Wg s d g
 | rel {g:Goroutine} (nx:World->Goroutine):g.status=.running->(∀ w,W0 ty Wg w->stepG P false g w=.go (nx w) w #[mk (.releaseMerge (stA Wg))])->(∀ w,W0 ty Wg w->Life P ty Wg 6 0 (nx w))->Life P ty Wg 7 0 g
 | dis {g:Goroutine} (nx:World->Goroutine):g.status=.running->(∀ w,W0 ty Wg w->stepG P false g w=.go (nx w) w #[mk .disable])->(∀ w,W0 ty Wg w->Life P ty Wg 5 1 (nx w))->Life P ty Wg 6 0 g
 | add {g:Goroutine} (nx:Nat->Nat->World->Goroutine):g.status=.running ->
   (∀ (v wt:Nat) (w:World),wt<=1->v<2147483647->WgAt ty Wg w (((v:Int)+1)*KK+(wt:Int)) 0->stepG P false g w=.go (nx v wt w) (w.setCell (stA Wg) (.int .u64 ((v:Int)*KK+(wt:Int)))) #[rd (stA Wg),wr (stA Wg)]) ->
   (∀ (v wt:Nat) (w:World),wt<=1->v<2147483647->WgAt ty Wg w (((v:Int)+1)*KK+(wt:Int)) 0->v=0/\wt=1->Life P ty Wg 4 1 (nx v wt w)) ->
   (∀ (v wt:Nat) (w:World),wt<=1->v<2147483647->WgAt ty Wg w (((v:Int)+1)*KK+(wt:Int)) 0->¬ (v=0/\wt=1)->Life P ty Wg 1 1 (nx v wt w))->Life P ty Wg 5 1 g
 | load {g:Goroutine} (nx:World->Goroutine):g.status=.running->(∀ w,WgAt ty Wg w 1 0->stepG P false g w=.go (nx w) w #[rd (stA Wg)])->(∀ w,WgAt ty Wg w 1 0->Life P ty Wg 3 1 (nx w))->Life P ty Wg 4 1 g
 | store {g:Goroutine} (nx:World->Goroutine):g.status=.running->(∀ w,WgAt ty Wg w 1 0->stepG P false g w=.go (nx w) (w.setCell (stA Wg) (.int .u64 0)) #[wr (stA Wg)])->(∀ w,WgAt ty Wg w 1 0->Life P ty Wg 2 1 (nx w))->Life P ty Wg 3 1 g
 | sem {g:Goroutine} (nx:World->Goroutine):g.status=.running->mayWake P g=true->(∀ w,WgAt ty Wg w 0 0->stepG P false g w=.go (nx w) (w.setCell (smA Wg) (.int .u32 1)) (semEvents (smA Wg)))->(∀ w,WgAt ty Wg w 0 0->Life P ty Wg 1 1 (nx w))->Life P ty Wg 2 1 g
 | quit {n d:Nat} {g:Goroutine}:QuitsD P n d g->Life P ty Wg 1 d g
variable {P:Program} {ty:TypeId} {Wg C:Nat}
variable {s d:Nat}{g:Goroutine}
theorem Life.status{s d:Nat}{g:Goroutine}(l:Life P ty Wg s d g):g.status=.running\/g.status=.finished:=by
 cases l with
 | quit h=>exact h.status
 | _=>left;assumption
open Classical in
theorem K3(h1:2<=s)(h2:s<=7)(hr:g.status=.running)(h:∀ w,W0 ty Wg w->∃ g',stepG P false g w=.go g' w #[]/\Life P ty Wg s d g'):Life P ty Wg s d g :=
 .idle (fun w=>if hw:W0 ty Wg w then (h w hw).choose else g) h1 h2 hr (fun w hw=>by rw[dif_pos hw];exact(h w hw).choose_spec.1) (fun w hw=>by rw[dif_pos hw];exact(h w hw).choose_spec.2)
open Classical in
theorem Life.rel'(hr:g.status=.running)(h:∀ w,W0 ty Wg w->∃ g',stepG P false g w=.go g' w #[mk (.releaseMerge (stA Wg))]/\Life P ty Wg 6 0 g'):Life P ty Wg 7 0 g :=
 .rel (fun w=>if hw:W0 ty Wg w then (h w hw).choose else g) hr (fun w hw=>by rw[dif_pos hw];exact(h w hw).choose_spec.1) (fun w hw=>by rw[dif_pos hw];exact(h w hw).choose_spec.2)
open Classical in
theorem Life.dis'(hr:g.status=.running)(h:∀ w,W0 ty Wg w->∃ g',stepG P false g w=.go g' w #[mk .disable]/\Life P ty Wg 5 1 g'):Life P ty Wg 6 0 g :=
 .dis (fun w=>if hw:W0 ty Wg w then (h w hw).choose else g) hr (fun w hw=>by rw[dif_pos hw];exact(h w hw).choose_spec.1) (fun w hw=>by rw[dif_pos hw];exact(h w hw).choose_spec.2)
open Classical in
theorem Life.add'(hr:g.status=.running)(h:∀ (v wt:Nat) (w:World),wt<=1->v<2147483647->WgAt ty Wg w (((v:Int)+1)*KK+(wt:Int)) 0 ->
  ∃ g',stepG P false g w=.go g' (w.setCell (stA Wg) (.int .u64 ((v:Int)*KK+(wt:Int)))) #[rd (stA Wg),wr (stA Wg)]/\(v=0/\wt=1->Life P ty Wg 4 1 g')/\(¬ (v=0/\wt=1)->Life P ty Wg 1 1 g')):Life P ty Wg 5 1 g:=by
 let nx:Nat->Nat->World->Goroutine:=fun v wt w=>if hw:wt<=1/\v<2147483647/\WgAt ty Wg w (((v:Int)+1)*KK+(wt:Int)) 0 then (h v wt w hw.1 hw.2.1 hw.2.2).choose else g
 have d:∀ (v wt:Nat) (w:World) (a:wt<=1) (b:v<2147483647) (c:WgAt ty Wg w (((v:Int)+1)*KK+(wt:Int)) 0),nx v wt w=(h v wt w a b c).choose:=fun v wt w a b c=>dif_pos ⟨a,b,c⟩;exact .add nx hr (fun v wt w a b c=>by rw[d v wt w a b c];exact(h v wt w a b c).choose_spec.1) (fun v wt w a b c=>by rw[d v wt w a b c];exact(h v wt w a b c).choose_spec.2.1) (fun v wt w a b c=>by rw[d v wt w a b c];exact(h v wt w a b c).choose_spec.2.2)
open Classical in
theorem Life.load'(hr:g.status=.running)(h:∀ w,WgAt ty Wg w 1 0->∃ g',stepG P false g w=.go g' w #[rd (stA Wg)]/\Life P ty Wg 3 1 g'):Life P ty Wg 4 1 g :=
 .load (fun w=>if hw:WgAt ty Wg w 1 0 then (h w hw).choose else g) hr (fun w hw=>by rw[dif_pos hw];exact(h w hw).choose_spec.1) (fun w hw=>by rw[dif_pos hw];exact(h w hw).choose_spec.2)
open Classical in
theorem Life.store'(hr:g.status=.running)(h:∀ w,WgAt ty Wg w 1 0->∃ g',stepG P false g w=.go g' (w.setCell (stA Wg) (.int .u64 0)) #[wr (stA Wg)]/\Life P ty Wg 2 1 g'):Life P ty Wg 3 1 g :=
 .store (fun w=>if hw:WgAt ty Wg w 1 0 then (h w hw).choose else g) hr (fun w hw=>by rw[dif_pos hw];exact(h w hw).choose_spec.1) (fun w hw=>by rw[dif_pos hw];exact(h w hw).choose_spec.2)
open Classical in
theorem Life.sem'(hr:g.status=.running)(hm:mayWake P g=true)(h:∀ w,WgAt ty Wg w 0 0->∃ g',stepG P false g w=.go g' (w.setCell (smA Wg) (.int .u32 1)) (semEvents (smA Wg))/\Life P ty Wg 1 1 g'):Life P ty Wg 2 1 g :=
 .sem (fun w=>if hw:WgAt ty Wg w 0 0 then (h w hw).choose else g) hr hm (fun w hw=>by rw[dif_pos hw];exact(h w hw).choose_spec.1) (fun w hw=>by rw[dif_pos hw];exact(h w hw).choose_spec.2)
def stg(h:LH):Nat:=match h.todo with
 | []=>0
 | _::_=>h.pend.length
def LH.to(h:LH)(s d:Nat):LH:={ h with chans:=List.replicate d 0,pend:=List.replicate s [] }
theorem Jz(h:LH)(s d:Nat):(h.to s d).dp=d:=by simp[LH.to,LH.dp]
theorem Za(h:LH)(s d:Nat):(h.to s d).pend.length=s:=by simp[LH.to]
def noCells:Cells:=fun _=>none
structure Kept(C:Nat)(h:LH):Prop where
 kept:∃ (j:Nat) (φ:Value->Cells->Prop) (c:Array Value) (e:TypeId) (v:Value),h.todo=[(j,φ)]/\h.get C=some (true,.pending c e)/\c[j]?=some v/\notHole v=true/\φ v noCells
theorem Kept.ne{h:LH}(k:Kept C h):h.todo≠[]:=by
 obtain⟨j,φ,c,e,v,h1,_⟩:=k.kept;rw[h1];simp
theorem Kept.to{h:LH}(k:Kept C h)(s d:Nat):Kept C (h.to s d):=⟨k.kept⟩
theorem Yj{h:LH}(k:h.todo≠[]):stg h=h.pend.length:=by
 unfold stg;cases e:h.todo with
 | nil=>exact absurd e k
 | cons _ _=>rfl
inductive WkG(P:Program)(ty:TypeId)(Wg C:Nat):Goroutine->LH->Prop
 | work {fr:Frame} {cs:List Frame} {h:LH} {N:Goroutine->LH->Prop}:LStep P false (G fr cs) h N->(∀ g' h',N g' h'->WkG P ty Wg C g' h')->WkG P ty Wg C (G fr cs) h
 | done {g:Goroutine} {h:LH}:Kept C h->Life P ty Wg 7 0 g->WkG P ty Wg C g h
inductive WSt(P:Program)(ty:TypeId)(Wg C:Nat):Goroutine->LH->Prop
 | old {n:Nat} {g:Goroutine} {h:LH}:h.todo=[]->QuitsD P n h.dp g->WSt P ty Wg C g h
 | work {g:Goroutine} {h:LH}:h.todo≠[]->h.pend.length=7->h.chans=[]->WkG P ty Wg C g h->WSt P ty Wg C g h
 | lib {g:Goroutine} {h:LH}:Kept C h->1<=h.pend.length->h.pend.length<=7->Life P ty Wg h.pend.length h.dp g->WSt P ty Wg C g h
theorem WkG.status{g:Goroutine}{h:LH}(a:WkG P ty Wg C g h):g.status=.running\/g.status=.finished:=by
 cases a with
 | work _ _=>exact .inl rfl
 | done _ l=>exact l.status
theorem WSt.status{g:Goroutine}{h:LH}(a:WSt P ty Wg C g h):g.status=.running\/g.status=.finished:=by
 cases a with
 | old _ b=>exact b.status
 | work _ _ _ hw=>exact hw.status
 | lib _ _ _ l=>exact l.status
theorem WSt.libTo{h:LH}(k:Kept C h)(h1:1<=s)(h2:s<=7)(l:Life P ty Wg s d g):WSt P ty Wg C g (h.to s d) :=
 .lib (k.to s d) (by rw[Za];exact h1) (by rw[Za];exact h2) (by rw[Za,Jz];exact l)
inductive LibMove(P:Program)(ty:TypeId)(Wg:Nat)(K:Goroutine->LH->Prop):Nat->Nat->Goroutine->LH->Prop
 | idle {s d:Nat} {g:Goroutine} {h:LH} (nx:World->Goroutine):2<=s->s<=7->(∀ w,W0 ty Wg w->stepG P false g w=.go (nx w) w #[])->(∀ w,W0 ty Wg w->Life P ty Wg s d (nx w)/\K (nx w) h)->LibMove P ty Wg K s d g h
 | rel {g:Goroutine} {h:LH} (nx:World->Goroutine):(∀ w,W0 ty Wg w->stepG P false g w=.go (nx w) w #[mk (.releaseMerge (stA Wg))])->(∀ w,W0 ty Wg w->Life P ty Wg 6 0 (nx w)/\K (nx w) (h.to 6 0))->LibMove P ty Wg K 7 0 g h
 | dis {g:Goroutine} {h:LH} (nx:World->Goroutine):(∀ w,W0 ty Wg w->stepG P false g w=.go (nx w) w #[mk .disable])->(∀ w,W0 ty Wg w->Life P ty Wg 5 1 (nx w)/\K (nx w) (h.to 5 1))->LibMove P ty Wg K 6 0 g h
 | add {g:Goroutine} {h:LH} (nx:Nat->Nat->World->Goroutine) :
   (∀ (v wt:Nat) (w:World),wt<=1->v<2147483647->WgAt ty Wg w (((v:Int)+1)*KK+(wt:Int)) 0->stepG P false g w=.go (nx v wt w) (w.setCell (stA Wg) (.int .u64 ((v:Int)*KK+(wt:Int)))) #[rd (stA Wg),wr (stA Wg)]) ->
   (∀ (v wt:Nat) (w:World),wt<=1->v<2147483647->WgAt ty Wg w (((v:Int)+1)*KK+(wt:Int)) 0->v=0/\wt=1->Life P ty Wg 4 1 (nx v wt w)/\K (nx v wt w) (h.to 4 1)) ->
   (∀ (v wt:Nat) (w:World),wt<=1->v<2147483647->WgAt ty Wg w (((v:Int)+1)*KK+(wt:Int)) 0->¬ (v=0/\wt=1)->Life P ty Wg 1 1 (nx v wt w)/\K (nx v wt w) (h.to 1 1))->LibMove P ty Wg K 5 1 g h
 | load {g:Goroutine} {h:LH} (nx:World->Goroutine):(∀ w,WgAt ty Wg w 1 0->stepG P false g w=.go (nx w) w #[rd (stA Wg)])->(∀ w,WgAt ty Wg w 1 0->Life P ty Wg 3 1 (nx w)/\K (nx w) (h.to 3 1))->LibMove P ty Wg K 4 1 g h
 | store {g:Goroutine} {h:LH} (nx:World->Goroutine):(∀ w,WgAt ty Wg w 1 0->stepG P false g w=.go (nx w) (w.setCell (stA Wg) (.int .u64 0)) #[wr (stA Wg)])->(∀ w,WgAt ty Wg w 1 0->Life P ty Wg 2 1 (nx w)/\K (nx w) (h.to 2 1))->LibMove P ty Wg K 3 1 g h
 | sem {g:Goroutine} {h:LH} (nx:World->Goroutine):mayWake P g=true->(∀ w,WgAt ty Wg w 0 0->stepG P false g w=.go (nx w) (w.setCell (smA Wg) (.int .u32 1)) (semEvents (smA Wg)))->(∀ w,WgAt ty Wg w 0 0->Life P ty Wg 1 1 (nx w)/\K (nx w) (h.to 1 1))->LibMove P ty Wg K 2 1 g h
 | quit {n d:Nat} {g g':Goroutine} {h:LH} {es:Array Event}:(∀ e∈es,Event.mute e=true)->(∀ w,stepG P false g w=.go g' w es)->QuitsD P n (deafBehind d es) g'->K g' (h.to 1 (deafBehind d es))->LibMove P ty Wg K 1 d g h
def MovesW(P:Program)(ty:TypeId)(Wg C:Nat)(g:Goroutine)(h:LH)(K:Goroutine->LH->Prop):Prop :=
  g.status=.finished\/(g.status=.running /\
    ((h.todo=[]/\∃ n g' es,(∀ e∈es,Event.mute e=true)/\(∀ w,stepG P false g w=.go g' w es)/\QuitsD P n (deafBehind h.dp es) g'/\K g' (h.deaf (deafBehind h.dp es))) \/
     (h.todo≠[]/\h.pend.length=7/\h.chans=[]/\∃ fr cs N,g=G fr cs/\LStep P false (G fr cs) h N/\∀ g' h',N g' h'->(h'.todo=h.todo/\h'.pend=h.pend/\h'.chans=h.chans)/\WkG P ty Wg C g' h'/\K g' h') \/
     (Kept C h/\1<=h.pend.length/\h.pend.length<=7/\LibMove P ty Wg K h.pend.length h.dp g h)))
inductive Run1W(P:Program)(ty:TypeId)(Wg C:Nat):Goroutine->LH->Prop
 | mk (g:Goroutine) (h:LH) (K:Goroutine->LH->Prop):MovesW P ty Wg C g h K->(∀ g' h',K g' h'->Run1W P ty Wg C g' h')->Run1W P ty Wg C g h
theorem run1W_old:∀ (n:Nat) (g:Goroutine) (h:LH),h.todo=[]->QuitsD P n h.dp g->Run1W P ty Wg C g h:=by
 intro n
 induction n with
 | zero=>intro g h h0 c;exact .mk g h (fun _ _=>False) (.inl c.1) fun _ _ e=>e.elim
 | succ n j =>
  intro g h h0 c;rcases c with c|⟨hr,g',es,hm,hw,d⟩
  ·exact .mk g h (fun _ _=>False) (.inl c.1) fun _ _ e=>e.elim
  ·refine .mk g h (fun a b=>a=g'/\b=h.deaf (deafBehind h.dp es)) (.inr ⟨hr,.inl ⟨h0,n,g',es,hm,hw,d,rfl,rfl⟩⟩) ?_;rintro a b ⟨f,i⟩;rw[f,i];exact j g' _ h0 (by rw[Z7];exact d)
theorem run1W_quit:∀ (n:Nat) (g:Goroutine) (h:LH),Kept C h->h.pend.length=1->QuitsD P n h.dp g->Run1W P ty Wg C g h:=by
 intro n
 induction n with
 | zero=>intro g h _ _ d;exact .mk g h (fun _ _=>False) (.inl d.1) fun _ _ c=>c.elim
 | succ n j =>
  intro g h c h1 d;rcases d with d|⟨hr,g',es,hm,hw,e⟩
  ·exact .mk g h (fun _ _=>False) (.inl d.1) fun _ _ c=>c.elim
  ·refine .mk g h (fun a b=>a=g'/\b=h.to 1 (deafBehind h.dp es)) (.inr ⟨hr,.inr (.inr ⟨c,by omega,by omega,?_⟩)⟩) ?_
   ·rw[h1];exact .quit hm hw e ⟨rfl,rfl⟩
   ·rintro a b ⟨f,i⟩;rw[f,i];exact j g' _ (c.to _ _) (Za _ _ _) (by rw[Jz];exact e)
theorem run1W_life(l:Life P ty Wg s d g):∀ h:LH,Kept C h->h.pend.length=s->h.dp=d->Run1W P ty Wg C g h:=by
 induction l with
 | @idle s d g nx h1 h2 hr k m n =>
  intro h i f j;refine .mk g h (fun a b=>(∃ w,W0 ty Wg w/\a=nx w)/\b=h) (.inr ⟨hr,.inr (.inr ⟨i,by omega,by omega,?_⟩)⟩) ?_
  ·rw[f,j];exact .idle nx h1 h2 k fun w hw=>⟨m w hw,⟨w,hw,rfl⟩,rfl⟩
  ·rintro a b ⟨⟨w,hw,rfl⟩,rfl⟩;exact n w hw b i f j
 | @rel g nx hr k m n =>
  intro h i f j;refine .mk g h (fun a b=>(∃ w,W0 ty Wg w/\a=nx w)/\b=h.to 6 0) (.inr ⟨hr,.inr (.inr ⟨i,by omega,by omega,?_⟩)⟩) ?_
  ·rw[f,j];exact .rel nx k fun w hw=>⟨m w hw,⟨w,hw,rfl⟩,rfl⟩
  ·rintro a b ⟨⟨w,hw,rfl⟩,rfl⟩;exact n w hw _ (i.to _ _) (Za _ _ _) (Jz _ _ _)
 | @dis g nx hr k m n =>
  intro h i f j;refine .mk g h (fun a b=>(∃ w,W0 ty Wg w/\a=nx w)/\b=h.to 5 1) (.inr ⟨hr,.inr (.inr ⟨i,by omega,by omega,?_⟩)⟩) ?_
  ·rw[f,j];exact .dis nx k fun w hw=>⟨m w hw,⟨w,hw,rfl⟩,rfl⟩
  ·rintro a b ⟨⟨w,hw,rfl⟩,rfl⟩;exact n w hw _ (i.to _ _) (Za _ _ _) (Jz _ _ _)
 | @add g nx hr k o p q r =>
  intro h i f j;refine .mk g h (fun a b=>(∃ (v wt:Nat) (w:World),wt<=1/\v<2147483647/\WgAt ty Wg w (((v:Int)+1)*KK+(wt:Int)) 0/\a=nx v wt w/\((v=0/\wt=1)/\b=h.to 4 1\/(¬ (v=0/\wt=1))/\b=h.to 1 1))) (.inr ⟨hr,.inr (.inr ⟨i,by omega,by omega,?_⟩)⟩) ?_
  ·rw[f,j];exact .add nx k (fun v wt w a b c e=>⟨o v wt w a b c e,v,wt,w,a,b,c,rfl,.inl ⟨e,rfl⟩⟩) (fun v wt w a b c e=>⟨p v wt w a b c e,v,wt,w,a,b,c,rfl,.inr ⟨e,rfl⟩⟩)
  ·rintro a b ⟨v,wt,w,x,y,z,rfl,⟨e,rfl⟩|⟨e,rfl⟩⟩
   ·exact q v wt w x y z e _ (i.to _ _) (Za _ _ _) (Jz _ _ _)
   ·exact r v wt w x y z e _ (i.to _ _) (Za _ _ _) (Jz _ _ _)
 | @load g nx hr k m n =>
  intro h i f j;refine .mk g h (fun a b=>(∃ w,WgAt ty Wg w 1 0/\a=nx w)/\b=h.to 3 1) (.inr ⟨hr,.inr (.inr ⟨i,by omega,by omega,?_⟩)⟩) ?_
  ·rw[f,j];exact .load nx k fun w hw=>⟨m w hw,⟨w,hw,rfl⟩,rfl⟩
  ·rintro a b ⟨⟨w,hw,rfl⟩,rfl⟩;exact n w hw _ (i.to _ _) (Za _ _ _) (Jz _ _ _)
 | @store g nx hr k m n =>
  intro h i f j;refine .mk g h (fun a b=>(∃ w,WgAt ty Wg w 1 0/\a=nx w)/\b=h.to 2 1) (.inr ⟨hr,.inr (.inr ⟨i,by omega,by omega,?_⟩)⟩) ?_
  ·rw[f,j];exact .store nx k fun w hw=>⟨m w hw,⟨w,hw,rfl⟩,rfl⟩
  ·rintro a b ⟨⟨w,hw,rfl⟩,rfl⟩;exact n w hw _ (i.to _ _) (Za _ _ _) (Jz _ _ _)
 | @sem g nx hr hm k m n =>
  intro h i f j;refine .mk g h (fun a b=>(∃ w,WgAt ty Wg w 0 0/\a=nx w)/\b=h.to 1 1) (.inr ⟨hr,.inr (.inr ⟨i,by omega,by omega,?_⟩)⟩) ?_
  ·rw[f,j];exact .sem nx hm k fun w hw=>⟨m w hw,⟨w,hw,rfl⟩,rfl⟩
  ·rintro a b ⟨⟨w,hw,rfl⟩,rfl⟩;exact n w hw _ (i.to _ _) (Za _ _ _) (Jz _ _ _)
 | quit t =>
  intro h i f j;exact run1W_quit _ _ _ i f (by rw[j];exact t)
theorem run1W_wk{h:LH}(a:WkG P ty Wg C g h):h.todo≠[]->h.pend.length=7->h.chans=[]->Run1W P ty Wg C g h:=by
 induction a with
 | @work fr cs h N p m q =>
  intro h1 h2 h3;refine .mk _ h (fun g' h'=>N g' h'/\h'.todo=h.todo/\h'.pend=h.pend/\h'.chans=h.chans) (.inr ⟨rfl,.inr (.inl ⟨h1,h2,h3,fr,cs,fun g' h'=>N g' h'/\h'.todo=h.todo/\h'.pend=h.pend/\h'.chans=h.chans,rfl,?_,?_⟩)⟩) ?_
  ·intro w n;obtain⟨g',w',es,h',f,i,j,k⟩:=p w n;exact⟨g',w',es,h',f,i,j,k,rfl,rfl,rfl⟩
  ·rintro g' h' ⟨e,b,c,d⟩;exact⟨⟨b,c,d⟩,m g' h' e,e,b,c,d⟩
  ·rintro g' h' ⟨e,b,c,d⟩;exact q g' h' e (by rw[b];exact h1) (by rw[c];exact h2) (by rw[d];exact h3)
 | done o l =>
  intro h1 h2 h3;exact run1W_life l _ o h2 (by show List.length _=0;rw[h3];rfl)
theorem WSt.run1{h:LH}(a:WSt P ty Wg C g h):Run1W P ty Wg C g h:=by
 cases a with
 | old h0 c=>exact run1W_old _ _ _ h0 c
 | work h1 h2 h3 hw=>exact run1W_wk hw h1 h2 h3
 | lib b h1 h2 l=>exact run1W_life l h b rfl rfl
inductive SysW(P:Program)(ty:TypeId)(Wg C:Nat):List (Goroutine×LH)->Prop
 | mk (l:List (Goroutine×LH)) (K:Nat->Goroutine->LH->Prop):(∀ i g h,l[i]?=some (g,h)->MovesW P ty Wg C g h (K i))->(∀ i g' h',i<l.length->K i g' h'->SysW P ty Wg C (l.set i (g',h')))->SysW P ty Wg C l
theorem SysW.cons{g:Goroutine}{h:LH}(a:Run1W P ty Wg C g h):∀ l,SysW P ty Wg C l->SysW P ty Wg C ((g,h)::l):=by
 induction a with
 | mk g h K hm n m =>
  intro l k
  induction k with
  | mk l f c d e =>
   refine .mk _ (fun i=>match i with|0=>K|i+1=>f i) ?_ ?_
   ·intro i g' h' b;cases i with
    | zero=>simp at b;obtain⟨rfl,rfl⟩:=b;exact hm
    | succ i=>exact c i g' h' (by simpa using b)
   ·intro i g' h' b j;cases i with
    | zero=>exact m g' h' j l (.mk l f c d)
    | succ i=>exact e i g' h' (by simpa using b) j
theorem SysW.all:∀ (l:List (Goroutine×LH)),(∀ x∈l,WSt P ty Wg C x.1 x.2)->SysW P ty Wg C l
 | [],_=>.mk [] (fun _ _ _=>False) (fun i g h a=>by simp at a) (fun i g' h' a=>by simp at a)
 | x::l,h=>SysW.cons (h x (by simp)).run1 l (SysW.all l fun y b=>h y (by simp[b]))
end
section
open Go.ConcR (KK wgBlock WgAt stA smA rd wr mk)
open Go.ConcN (RelBy)
def Rel(t:Trace)(i:Nat)(a:Addr)(ks:Key->Prop):Prop:=∃ q,RelBy a t i q/\∀ k,ks k->∀ p b,Touches t p k b->HB t p q
variable {g i n:Nat}{a:Addr}{u:Trace}{fn:FuncId}{pos:String}{es:Array Event}{w':World}{k':Cells}{gw g':Goroutine}
theorem Y4{t:Trace}{p:Nat}(h:t.g? p=some g):∃ x,t[p]?=some x/\x.g=g:=Option.map_eq_some_iff.1 h
theorem Rel.done{t:Trace}{ks:Key->Prop}(h:Rel t i a ks):∃ p,Done t i a ks p:=by
 obtain⟨q,r,e⟩:=h;refine⟨q,r.act,r.g,r.heard,e,fun p c hc=>?_⟩;rcases Nat.lt_trichotomy p q with h1|h1|h1
 ·obtain⟨x,b,ex⟩:=Y4 c;obtain⟨y,f,d⟩:=Y4 r.g;exact HB.po h1 b f (ex.trans d.symm)
 ·subst h1;obtain⟨x,b,_⟩:=hc;rw[r.act]at b;cases b
 ·exact absurd hc (r.after p h1 c)
def Spares(u:Trace)(ks:Key->Prop):Prop:=∀ op∈u,∀ x,op.act.touch?=some x->∀ k,key? x.loc=some k->¬ ks k
theorem Spares.old{t u:Trace}{ks:Key->Prop}(hu:Spares u ks){k:Key}(f:ks k){p:Nat}{b:Bool}(e:Touches (t++u) p k b):Touches t p k b:=by
 rcases Nat.lt_or_ge p t.size with c|c
 ·exact e.old c
 ·obtain⟨op,x,h1,h2,h3,_⟩:=e;rcases getElem?_append_cases h1 with⟨d,_⟩|⟨_,a⟩
  ·exact absurd d (Nat.not_lt.2 c)
  ·exact absurd f (hu op a x h2 k h3)
theorem Rel.other{t:Trace}{ks:Key->Prop}(h:Rel t i a ks)(e:∀ op∈u,op.g=g)(d:g≠i)(hu:Spares u ks):Rel (t++u) i a ks:=by
 obtain⟨q,r,f⟩:=h;exact⟨q,r.appOther e d,fun k c p b j=>(f k c p b (hu.old c j)).append⟩
theorem Rel.own{t:Trace}{ks:Key->Prop}(h:Rel t i a ks)(fn:FuncId)(pos:String)(es:Array Event)
 (d:∀ (j:Nat) e,es[j]?=some e->(MemAct.ofEvent e).touch?=none\/((∃ ad wr,e=⟨.cell ad,wr,true⟩)/\0<deafBehind (Deaf t i) (es.extract 0 j)))(hu:Spares (MemOp.ofEvents i fn pos es) ks):Rel (t++MemOp.ofEvents i fn pos es) i a ks:=by
 obtain⟨q,r,f⟩:=h;exact⟨q,r.appOwn fn pos es d,fun k c p b g=>(f k c p b (hu.old c g)).append⟩
theorem TI.rel{sy:Sy}{t:Trace}{n ng:Nat}{hold:Nat->Key->Option Bool}{gone:Nat->Prop}(h:TI sy t n ng hold gone){i:Nat}{a:Addr}{ks:Key->Prop}(c:∀ k,ks k->hold i k=some true)(j:Deaf t i=0)(fn:FuncId)(pos:String) :
  Rel (t++MemOp.ofEvents i fn pos #[Go.ConcR.mk (.releaseMerge a)]) i a ks:=by
 refine⟨t.size,RelBy.new j fn pos,fun k l p b s=>?_⟩;have r:=RelBy.new (a:=a) j fn pos;obtain⟨z,u,o⟩:=Y4 r.g;have sp:Spares (MemOp.ofEvents i fn pos #[Go.ConcR.mk (.releaseMerge a)]) ks:=by
  intro op d x m;obtain⟨_,e,he,q⟩:=Qw d;rw[Array.mem_singleton]at he;subst he;rw[q]at m;cases m
 have f:=sp.old l s;have:=h.own i k (c k l) p b f;rw[<- o]at this;exact this.new u (Nat.le_refl _)
def LibE(Wg g:Nat)(e:Event):Prop:=e.loc=.mark .disable\/e.loc=.mark .enable\/(∃ a,e.loc=.mark (.releaseMerge a))\/(∃ a,e.loc=.mark (.acquire a))\/(∃ a b,e=⟨.cell a,b,true⟩/\a.block=Wg)\/(g=0/\∃ a,(e.loc=.mark (.read a)\/e.loc=.mark (.write a))/\a.block=Wg)
theorem syncOps{sy:Sy}{Wg:Nat}(hu:sy.use g Wg)(f:∀ e∈es,LibE Wg g e):∀ op∈MemOp.ofEvents g fn pos es,SyncOp sy g op:=by
 intro op i;obtain⟨o,e,he,l⟩:=Qw i;have key:(∀ x,(MemAct.ofEvent e).touch?=some x->x.kind≠.plain/\(x.kind=.said->g=0)/\∀ k,key? x.loc=some k->sy.use g k.1)/\∀ a,MemAct.ofEvent e≠.mark (.release a):=by
  have j:∀ m,e.loc=.mark m->MemAct.ofEvent e=.mark m\/(∃ a,m=.read a/\MemAct.ofEvent e=.mark (.read a))\/True:=fun _ _=>.inr (.inr trivial);obtain⟨loc,w,s⟩:=e;rcases f _ he with h|h|⟨a,h⟩|⟨a,h⟩|⟨a,b,h,hb⟩|⟨h0,a,h|h,hb⟩
  ·simp only at h;subst h;exact⟨nofun,nofun⟩
  ·simp only at h;subst h;exact⟨nofun,nofun⟩
  ·simp only at h;subst h;exact⟨nofun,nofun⟩
  ·simp only at h;subst h;exact⟨nofun,nofun⟩
  ·cases h;refine⟨fun x c=>?_,nofun⟩;simp only[MemAct.ofEvent,MemAct.touch?,Option.some.injEq]at c;subst c;refine⟨by simp,by simp,fun k d=>?_⟩;simp only[key?,Option.some.injEq]at d;subst d;rw[hb];exact hu
  ·simp only at h;subst h;refine⟨fun x c=>?_,nofun⟩;simp only[MemAct.ofEvent,MemAct.touch?,Option.some.injEq]at c;subst c;refine⟨by simp,fun _=>h0,fun k d=>?_⟩;simp only[key?,Option.some.injEq]at d;subst d;rw[hb];exact hu
  ·simp only at h;subst h;refine⟨fun x c=>?_,nofun⟩;simp only[MemAct.ofEvent,MemAct.touch?,Option.some.injEq]at c;subst c;refine⟨by simp,fun _=>h0,fun k d=>?_⟩;simp only[key?,Option.some.injEq]at d;subst d;rw[hb];exact hu
 exact⟨o,fun x c=>key.1 x (by rw[<- l];exact c),fun a=>by rw[l];exact key.2 a⟩
/-! ### n count -/
def cntW(h:LH):Nat:=if 5<=stg h then 1 else 0
def Vw:Crew->Nat
 | []=>0
 | x::l=>cntW x.2+Vw l
theorem U7:∀ (ws:Crew) (i:Nat) (x y:Goroutine×LH),ws[i]?=some x->Vw (ws.set i y)+cntW x.2=Vw ws+cntW y.2
 | [],i,x,y,h=>by simp at h
 | a::ws,0,x,y,h=>by
  simp at h;subst h;simp only[List.set_cons_zero,Vw];omega
 | a::ws,i+1,x,y,h=>by
  have:=U7 ws i x y (by simpa using h);simp only[List.set_cons_succ,Vw];omega
theorem Vw_pos{ws:Crew}(h:1<=Vw ws):∃ (i:Nat) (x:Goroutine×LH),ws[i]?=some x/\5<=stg x.2:=by
 induction ws with
 | nil=>simp[Vw]at h
 | cons a ws b =>
  by_cases e:5<=stg a.2
  ·exact⟨0,a,rfl,e⟩
  ·simp only[Vw,cntW,if_neg e,Nat.zero_add]at h;obtain⟨i,x,h1,h2⟩:=b h;exact⟨i+1,x,by simpa using h1,h2⟩
theorem le_Vw:∀ {ws:Crew} {i:Nat} {x:Goroutine×LH},ws[i]?=some x->cntW x.2<=Vw ws
 | [],i,x,h=>by simp at h
 | a::ws,0,x,h=>by simp at h;subst h;simp only[Vw];omega
 | a::ws,i+1,x,h=>by
  have:=le_Vw (ws:=ws) (i:=i) (x:=x) (by simpa using h);simp only[Vw];omega
theorem Vw_pending(ws:Crew):Vw ws<=(pending ws).length:=by
 induction ws with
 | nil=>simp[Vw]
 | cons a ws c =>
  show cntW a.2+Vw ws<=(cons' a.2.todo (pending ws)).length;cases e:a.2.todo with
  | nil=>simp only[cntW,stg,e,cons'];simpa using c
  | cons b l =>
   have:cntW a.2<=1:=by unfold cntW;split<;>omega
   simp only[cons',List.length_cons];omega
theorem Vw_append(ws:Crew)(x:Goroutine×LH):Vw (ws++[x])=Vw ws+cntW x.2:=by
 induction ws with
 | nil=>simp[Vw]
 | cons a ws b=>simp only[List.cons_append,Vw,b];omega
theorem Vw_zero{ws:Crew}(h:∀ x∈ws,stg x.2<=1):Vw ws=0:=by
 induction ws with
 | nil=>rfl
 | cons a ws c =>
  have:=h a List.mem_cons_self;simp only[Vw,cntW,if_neg (show ¬ 5<=stg a.2 by omega),c fun x b=>h x (List.mem_cons_of_mem _ b)]
inductive MT
 | opn (k p:Nat)
 | reg
 | fin
def Calm(ws:Crew):Prop:=∀ x∈ws,stg x.2=0\/stg x.2=1\/stg x.2=5\/stg x.2=6\/stg x.2=7
def Quiet(ws:Crew):Prop:=∀ x∈ws,stg x.2<=1
inductive Mode(ws:Crew):MT->Int->Int->Prop
 | opn {k p:Nat}:Calm ws->Vw ws<=k->p<=1->Mode ws (.opn k p) (((Vw ws:Int)+(p:Int))*KK) 0
 | reg:Calm ws->1<=Vw ws->Mode ws .reg ((Vw ws:Int)*KK+1) 0
 | last {i:Nat} {x:Goroutine×LH} {st:Int}:ws[i]?=some x->((stg x.2=4\/stg x.2=3)/\st=1\/stg x.2=2/\st=0)->(∀ j y,ws[j]?=some y->j≠i->stg y.2<=1)->Mode ws .reg st 0
 | sema:Quiet ws->Mode ws .reg 0 1
 | fin:Quiet ws->Mode ws .fin 0 0
def outK(C n:Nat)(k:Key):Prop:=k.1=C/\∀ i,k.2=some i->n<=i
structure InvW(P:Program)(ty:TypeId)(C Wg:Nat)(md:MT)(d:Nat)(sy:Sy)(n0:Nat)(w0:World)(ps:List Script)(h:LH)(ws:Crew)(w:World)(t:Trace):Prop where
 mem:MemW sy n0 w0 C (cellsOf h ws) (ws.length+1) (goneW ws) w t
 wg:sy.sp Wg/\n0<=Wg/\sy.use 0 Wg
 st:∀ x∈ws,WSt P ty Wg C x.1 x.2
 tr:∀ (i:Nat) x,ws[i]?=some x->Deaf t (i+1)=x.2.dp/\(x.2.todo≠[]->sy.use (i+1) Wg/\(x.2.pend.length<=6->Rel t (i+1) (stA Wg) (ownC (cellsOf h ws) C (i+1))))
 pend:List.Perm ps (pending ws)
 small:ps.length<2147483646
 deaf0:Deaf t 0=d
 mode:∃ st sm,WgAt ty Wg w st sm/\Mode ws md st sm
 oldC:∀ x∈ws,x.2.todo=[]->x.2.get C=none
 spC:¬ sy.sp C
 outC:∃ n,(∃ c e f,w.heap[C]?=some (.cells c e f)/\c.size=n)/\∀ k p b,outK C n k->Touches t p k b->Knows t p 0
variable {P:Program} {Φ:Value->World->Prop} {ty:TypeId} {C Wg:Nat} {md:MT} {d:Nat} {sy:Sy} {n0:Nat} {w0:World} {ps:List Script} {h:LH} {ws:Crew} {w:World} {t:Trace} {sl:Option (Nat×Nat)}
theorem InvW.at(I:InvW P ty C Wg md d sy n0 w0 ps h ws w t)(k:Nat):InvW P ty C Wg md d sy n0 w0 ps h ws (w.at k) t:=⟨I.mem.at k,I.wg,I.st,I.tr,I.pend,I.small,I.deaf0,I.mode,I.oldC,I.spC,I.outC⟩
theorem InvW.count(I:InvW P ty C Wg md d sy n0 w0 ps h ws w t):Vw ws<2147483646:=Nat.lt_of_le_of_lt (Vw_pending ws) (by rw[<- I.pend.length_eq];exact I.small)
theorem ownC_not_sp(m:MemW sy n0 w0 C (cellsOf h ws) (ws.length+1) (goneW ws) w t){k:Key}(a:ownC (cellsOf h ws) C i k):¬ sy.sp k.1:=(m.ti.held i k true a.2).2
theorem Spares.sync(m:MemW sy n0 w0 C (cellsOf h ws) (ws.length+1) (goneW ws) w t)(hu:∀ op∈u,SyncOp sy g op):Spares u (ownC (cellsOf h ws) C i):=by
 intro op b x d k c a;exact ownC_not_sp m a (m.ti.acc g k.1 (((hu op b).touch x d).2.2 k c)).1
theorem Spares.step(m:MemW sy n0 w0 C (cellsOf h ws) (ws.length+1) (goneW ws) w t){g i:Nat}(o:g≠i){h':Cells}{w':World}{es:Array Event}{fn:FuncId}{pos:String}(n:∀ e∈es,EvOk (cellsOf h ws g) w.heap.size w'.heap.size e):Spares (MemOp.ofEvents g fn pos es) (ownC (cellsOf h ws) C i):=by
 intro op s x f k d ⟨q,l⟩;obtain⟨_,e,he,v⟩:=Qw s;rw[v]at f;have c:=n e he;have clash:∀ b,holdsP (cellsOf h ws) g k=some b->False:=fun b hb=>by
  rw[m.ti.excl i g k (Ne.symm o) l]at hb;cases hb
 have new:¬ w.heap.size<=k.1:=by rw[q];exact Nat.not_le.2 m.cl
 unfold EvOk at c;unfold MemAct.ofEvent at f;split at f
 ·cases f
 ·rename_i z _ _;cases (show z=.noRoom from c);cases f
 ·simp only[MemAct.touch?,Option.some.injEq]at f;subst f;simp only at d;split at c
  ·rename_i a j;rw[j]at d;simp only[key?,Option.some.injEq]at d;subst d;rcases c.2 with⟨h1,_⟩|⟨y,u,_,p⟩
   ·exact new h1
   ·exact clash _ (Jb u p)
  ·rename_i r j;rw[j]at d;simp only[key?,Option.some.injEq]at d;subst d;rcases c with⟨h1,_⟩|⟨y,u,_,p⟩
   ·exact new h1
   ·exact clash _ (Jb u (Z8 p _))
  ·rename_i j;rw[j]at d;cases d
  ·exact c.elim
theorem Spares.syncO(m:MemW sy n0 w0 C (cellsOf h ws) (ws.length+1) (goneW ws) w t)(h0:¬ sy.sp C)(hu:∀ op∈u,SyncOp sy g op):Spares u (outK C n):=by
 intro op b x d k c a;have:=(m.ti.acc g k.1 (((hu op b).touch x d).2.2 k c)).1;rw[a.1]at this;exact h0 this
theorem Spares.stepO(m:MemW sy n0 w0 C (cellsOf h ws) (ws.length+1) (goneW ws) w t)(F:∃ c e f,w.heap[C]?=some (.cells c e f)/\c.size=n)(u:∀ e∈es,EvOk (cellsOf h ws g) w.heap.size w'.heap.size e):Spares (MemOp.ofEvents g fn pos es) (outK C n):=by
 intro op z x j k i ⟨d,q⟩;obtain⟨_,e,he,E⟩:=Qw z;rw[E]at j;have b:=u e he;have new:¬ w.heap.size<=k.1:=by rw[d];exact Nat.not_le.2 m.cl
 unfold EvOk at b;unfold MemAct.ofEvent at j;split at j
 ·cases j
 ·rename_i G _ _;cases (show G=.noRoom from b);cases j
 ·simp only[MemAct.touch?,Option.some.injEq]at j;subst j;simp only at i;split at b
  ·rename_i a p;rw[p]at i;simp only[key?,Option.some.injEq]at i;subst i;rcases b.2 with⟨h1,_⟩|⟨y,l,_,o⟩
   ·exact new h1
   ·simp only at d;rw[d]at l;obtain⟨_,A,B,s⟩:=m.part g y.1 y.2 l;rw[s]at o;obtain⟨I,h1,h2⟩:=m.fits g C y.1 y.2 l;rw[s]at h2;obtain⟨c2,rfl,h3,_⟩:=h2;obtain⟨c,H,f,D,h5⟩:=F;rw[h1]at D;cases D;obtain⟨v,hv,_⟩:=Wp o;have:=(Array.getElem?_eq_some_iff.1 hv).1;have:=q a.off rfl;omega
  ·rename_i r p;rw[p]at i;simp only[key?,Option.some.injEq]at i;subst i;rcases b with⟨h1,_⟩|⟨y,l,_,o⟩
   ·exact new h1
   ·simp only at d;rw[d]at l;obtain⟨_,A,B,s⟩:=m.part g y.1 y.2 l;rw[s]at o;exact o _ (Kk A B)
  ·rename_i p;rw[p]at i;cases i
  ·exact b.elim
theorem G0(h:∀ k p b,outK C n k->Touches t p k b->Knows t p 0)(hu:Spares u (outK C n)):∀ k p b,outK C n k->Touches (t++u) p k b->Knows (t++u) p 0 :=
 fun k p b a c=>(h k p b a (hu.old a c)).append
theorem sizeC(m:MemW sy n0 w0 C (cellsOf h ws) (ws.length+1) (goneW ws) w t)(l:∃ c e f,w.heap[C]?=some (.cells c e f)/\c.size=n)(tr:Tr (cellsOf h ws g) w k' w'):∃ c e f,w'.heap[C]?=some (.cells c e f)/\c.size=n:=by
 obtain⟨c,e,f,h1,h2⟩:=l;by_cases a:(cellsOf h ws g).own C
 ·obtain⟨o,a⟩:=a;obtain⟨_,d,i,rfl⟩:=m.part g _ _ a;obtain⟨b,h3,k⟩:=tr.part C _ _ a h1;obtain⟨c1,c2,q,f1,j,rfl,p,_⟩:=k ⟨_,Kk d i⟩;cases j;exact⟨c2,_,_,h3,p.trans h2⟩
 ·exact⟨c,e,f,by rw[tr.other C m.cl a];exact h1,h2⟩
theorem InvW.syncW(I:InvW P ty C Wg md d sy n0 w0 ps h ws w t){hw h':LH}(n:ws[i]?=some (gw,hw))(z:hw.todo≠[])(o:h'.get=hw.get)(a:h'.todo=hw.todo)(v:∀ e∈es,LibE Wg (i+1) e)
 (b:Aside Wg w w')(B:WSt P ty Wg C g' h')(L:deafBehind hw.dp es=h'.dp)(r:h'.pend.length<=6->Rel (t++MemOp.ofEvents (i+1) fn pos es) (i+1) (stA Wg) (ownC (cellsOf h ws) C (i+1)))
 (m:∃ st sm,WgAt ty Wg w' st sm/\Mode (ws.set i (g',h')) md st sm) :
  ∃ D,InvW P ty C Wg md d D n0 w0 ps h (ws.set i (g',h')) w' (t++MemOp.ofEvents (i+1) fn pos es):=by
 have p:i<ws.length:=(List.getElem?_eq_some_iff.1 n).1;obtain⟨t1,t2⟩:=I.tr i _ n;obtain⟨l,_⟩:=t2 z;have u:=syncOps (sy:=sy) (fn:=fn) (pos:=pos) l v;have hu:∀ op∈MemOp.ofEvents (i+1) fn pos es,op.g=i+1:=fun op A=>(Qw A).1;have hc:cellsOf h (ws.set i (g',h'))=cellsOf h ws:=by
  rw[Zt p];funext k;by_cases e:k=i+1
  ·subst e;simp[cellsOf,n,o]
  ·simp[e]
 obtain⟨rest,p1,p2⟩:=Zg ws i _ n;have hCW:C≠Wg:=fun e=>by have:=I.spC;rw[e]at this;exact this I.wg.1
 obtain⟨M,⟨G,H,J,N,O⟩,Q⟩:=I.outC;refine⟨sy.deafen (i+1) (Deaf (t++MemOp.ofEvents (i+1) fn pos es) (i+1)),?_,I.wg,?_,?_,?_,I.small,?_,m,?_,I.spC,M,⟨G,H,J,by rw[b.block C hCW];exact N,O⟩,G0 Q (.syncO I.mem I.spC u)⟩
 ·rw[hc,W5 (x:=(gw,hw)) (y:=(g',h')) n a,List.length_set];exact I.mem.sync (Nat.succ_lt_succ p) (H0 n z) u I.wg.1 I.wg.2.1 b.size b.block b.os b.tape b.output
 ·intro x c;rcases List.mem_or_eq_of_mem_set c with c|rfl
  ·exact I.st x c
  ·exact B
 ·intro j x c;rw[hc];rcases Zm c with⟨rfl,rfl⟩|⟨q,c⟩
  ·exact⟨by rw[Deaf_own,t1];exact L,fun _=>⟨l,r⟩⟩
  ·obtain⟨F,E⟩:=I.tr j x c;refine⟨by rw[Deaf_other t (fun e=>q (Nat.succ.inj e).symm) _ hu];exact F,fun f=>⟨(E f).1,fun K=>?_⟩⟩;exact((E f).2 K).other hu (fun e=>q (Nat.succ.inj e).symm) (.sync I.mem u)
 ·refine I.pend.trans (p1.trans ?_);have:=p2 (g',h');rw[show (g',h').2.todo=hw.todo from a]at this;exact this.symm
 ·rw[Deaf_other t (Nat.succ_ne_zero i) _ hu];exact I.deaf0
 ·intro x c s;rcases List.mem_or_eq_of_mem_set c with c|rfl
  ·exact I.oldC x c s
  ·exact absurd (a.symm.trans s) z
theorem InvW.stepW(I:InvW P ty C Wg md d sy n0 w0 ps h ws w t){hw h':LH}(n:ws[i]?=some (gw,hw))(D:hw.todo≠[])(M:hw.pend.length=7)(u:h'.get=k')(f:h'.todo=hw.todo)(p:h'.pend=hw.pend)(F:h'.chans=hw.chans)(fn:FuncId)(pos:String)
 (tr:Tr hw.get w k' w')(q:∀ e∈es,EvOk hw.get w.heap.size w'.heap.size e)(J:WSt P ty Wg C g' h') :
  InvW P ty C Wg md d sy n0 w0 ps h (ws.set i (g',h')) w' (t++MemOp.ofEvents (i+1) fn pos es):=by
 have v:i<ws.length:=(List.getElem?_eq_some_iff.1 n).1;have m:cellsOf h ws (i+1)=hw.get:=by simp[cellsOf,n]
 obtain⟨rest,p1,p2⟩:=Zg ws i _ n;obtain⟨t1,t2⟩:=I.tr i _ n;have hu:∀ op∈MemOp.ofEvents (i+1) fn pos es,op.g=i+1:=fun op G=>(Qw G).1;have s:cellsOf h (ws.set i (g',h'))=fun k=>if k=i+1 then k' else cellsOf h ws k:=by rw[Zt v,u]
 obtain⟨hm,H⟩:=I.mem.step (j:=i+1) (Nat.succ_lt_succ v) (H0 n D) fn pos (by rw[m];exact tr) (by rw[m];exact q);have R:Deaf (t++MemOp.ofEvents (i+1) fn pos es) (i+1)=Deaf t (i+1):=by
  rw[Deaf_own,Zn];intro e he;have:=q e he;unfold EvOk at this;refine⟨fun N=>?_,fun N=>?_⟩<;>(rw[N]at this;cases this)
 obtain⟨V,z,W⟩:=I.outC;refine⟨?_,I.wg,?_,?_,?_,I.small,?_,?_,?_,I.spC,V,sizeC I.mem (g:=i+1) z (by rw[m];exact tr),G0 W (.stepO (w':=w') I.mem (g:=i+1) z (by rw[m];exact q))⟩
 ·rw[s,W5 (x:=(gw,hw)) (y:=(g',h')) n f,List.length_set];exact hm
 ·intro x l;rcases List.mem_or_eq_of_mem_set l with l|rfl
  ·exact I.st x l
  ·exact J
 ·intro j x l;rcases Zm l with⟨rfl,rfl⟩|⟨r,l⟩
  ·refine⟨?_,fun o=>⟨(t2 D).1,fun E=>?_⟩⟩
   ·rw[R,t1];show hw.chans.length=h'.chans.length;rw[F]
   ·exact absurd E (by show ¬ h'.pend.length<=6;rw[p,M];omega)
  ·obtain⟨O,K⟩:=I.tr j x l;refine⟨by rw[Deaf_other t (fun e=>r (Nat.succ.inj e).symm) _ hu];exact O,fun o=>⟨(K o).1,fun E=>?_⟩⟩;have e:ownC (cellsOf h (ws.set i (g',h'))) C (j+1)=ownC (cellsOf h ws) C (j+1):=by
    funext k;unfold ownC holdsP;rw[s];simp only[show ¬ (j+1=i+1) from fun e=>r (Nat.succ.inj e),if_false]
   rw[e];exact((K o).2 E).other hu (fun e=>r (Nat.succ.inj e).symm) (.step (w':=w') I.mem (fun e=>r (Nat.succ.inj e).symm) (h':=k') (by rw[m];exact q))
 ·refine I.pend.trans (p1.trans ?_);have:=p2 (g',h');rw[show (g',h').2.todo=hw.todo from f]at this;exact this.symm
 ·rw[Deaf_other t (Nat.succ_ne_zero i) _ hu];exact I.deaf0
 ·obtain⟨st,sm,h1,h2⟩:=I.mode;refine⟨st,sm,(H Wg I.wg.1).trans h1,?_⟩;have es:stg h'=stg hw:=by unfold stg;rw[f,p]
  have B:Vw (ws.set i (g',h'))=Vw ws:=by
   have:=U7 ws i _ (g',h') n;simp only[cntW,es]at this;omega
  have L:Calm ws->Calm (ws.set i (g',h')):=fun hc x l=>by
   rcases List.mem_or_eq_of_mem_set l with l|rfl
   ·exact hc x l
   ·rw[show stg (g',h').2=stg hw from es];exact hc _ (List.mem_of_getElem? n)
  have s7:stg hw=7:=by rw[Yj D,M]
  have nq:¬ Quiet ws:=fun S=>absurd (S _ (List.mem_of_getElem? n)) (by show ¬ stg hw<=1;omega);cases h2 with
  | opn a b c=>rw[<- B];exact .opn (L a) (by rw[B];exact b) c
  | reg a b=>rw[<- B];exact .reg (L a) (by rw[B];exact b)
  | last a b c =>
   rename_i U x;exfalso;by_cases e:U=i
   ·subst e;rw[n]at a;cases a;rcases b with⟨b|b,_⟩|⟨b,_⟩<;>(simp only at b;omega)
   ·have:=c i _ n (fun Q=>e Q.symm);simp only at this;omega
  | sema a=>exact absurd a nq
  | fin a=>exact absurd a nq
 ·intro x l A;rcases List.mem_or_eq_of_mem_set l with l|rfl
  ·exact I.oldC x l A
  ·exact absurd (f.symm.trans A) D
theorem InvW.sayW(I:InvW P ty C Wg md d sy n0 w0 ps h ws w t){hw:LH}(o:ws[i]?=some (gw,hw))(h0:hw.todo=[])(hm:∀ e∈es,Event.mute e=true)(fn:FuncId)(pos:String)(M:QuitsD P n (deafBehind hw.dp es) g') :
  InvW P ty C Wg md d sy n0 w0 ps h (ws.set i (g',hw.deaf (deafBehind hw.dp es))) w (t++MemOp.ofEvents (i+1) fn pos es):=by
 have s:i<ws.length:=(List.getElem?_eq_some_iff.1 o).1;have hc:cellsOf h (ws.set i (g',hw.deaf (deafBehind hw.dp es)))=cellsOf h ws:=by
  rw[Zt s];funext k;by_cases e:k=i+1
  ·subst e;simp[cellsOf,o,LH.deaf]
  ·simp[e]
 have hu:∀ op∈MemOp.ofEvents (i+1) fn pos es,op.g=i+1:=fun op r=>(Qw r).1;have q:∀ d',stg (hw.deaf d')=0:=fun d'=>by unfold stg LH.deaf;simp only[h0]
 have u:∀ ks,Spares (MemOp.ofEvents (i+1) fn pos es) ks:=by
  intro ks op r x f;obtain⟨_,e,he,K⟩:=Qw r;rw[K,touch_mute (hm e he)]at f;cases f
 obtain⟨rest,p1,p2⟩:=Zg ws i _ o;obtain⟨N,z,O⟩:=I.outC;refine⟨?_,I.wg,?_,?_,I.pend.trans (p1.trans (p2 (g',hw.deaf (deafBehind hw.dp es))).symm),I.small,?_,?_,?_,I.spC,N,z,G0 O (u _)⟩
 ·rw[hc,W5 (x:=(gw,hw)) (y:=(g',hw.deaf (deafBehind hw.dp es))) o rfl,List.length_set];have m:=I.mem;exact⟨m.fits,m.part,m.whole,m.ti.say (Nat.succ_lt_succ s) ⟨_,o,h0⟩ hm,m.off,m.cl,m.out,m.pos,m.base,m.low,m.size,m.os,m.tape,m.output⟩
 ·intro x f;rcases List.mem_or_eq_of_mem_set f with f|rfl
  ·exact I.st x f
  ·exact .old h0 (by rw[Z7];exact M)
 ·intro j x f;rw[hc];rcases Zm f with⟨rfl,rfl⟩|⟨p,f⟩
  ·exact⟨by rw[Deaf_own,(I.tr j _ o).1,Z7],fun l=>absurd h0 l⟩
  ·obtain⟨H,D⟩:=I.tr j x f;exact⟨by rw[Deaf_other t (fun e=>p (Nat.succ.inj e).symm) _ hu];exact H,fun l=>⟨(D l).1,fun J=>((D l).2 J).other hu (fun e=>p (Nat.succ.inj e).symm) (u _)⟩⟩
 ·rw[Deaf_other t (Nat.succ_ne_zero i) _ hu];exact I.deaf0
 ·obtain⟨st,sm,h1,h2⟩:=I.mode;refine⟨st,sm,h1,?_⟩;have Q:stg hw=0:=by unfold stg;rw[h0]
  have v:Vw (ws.set i (g',hw.deaf (deafBehind hw.dp es)))=Vw ws:=by
   have:=U7 ws i _ (g',hw.deaf (deafBehind hw.dp es)) o;simp only[cntW,q,Q]at this;omega
  have E:Calm ws->Calm (ws.set i (g',hw.deaf (deafBehind hw.dp es))):=fun hc x f=>by
   rcases List.mem_or_eq_of_mem_set f with f|rfl
   ·exact hc x f
   ·exact .inl (q _)
  have F:Quiet ws->Quiet (ws.set i (g',hw.deaf (deafBehind hw.dp es))):=fun hc x f=>by
   rcases List.mem_or_eq_of_mem_set f with f|rfl
   ·exact hc x f
   ·rw[show stg (g',hw.deaf (deafBehind hw.dp es)).2=0 from q _];omega
  cases h2 with
  | opn a b c=>rw[<- v];exact .opn (E a) (by rw[v];exact b) c
  | reg a b=>rw[<- v];exact .reg (E a) (by rw[v];exact b)
  | @last G x st a b c =>
   have p:G≠i:=by
    rintro rfl;rw[o]at a;cases a;rcases b with⟨b|b,_⟩|⟨b,_⟩<;>(simp only at b;omega)
   refine .last (i:=G) (x:=x) (by rw[List.getElem?_set_ne (Ne.symm p)];exact a) b fun j y B L=>?_;rcases Zm B with⟨rfl,rfl⟩|⟨_,B⟩
   ·rw[show stg (g',hw.deaf (deafBehind hw.dp es)).2=0 from q _];omega
   ·exact c j y B L
  | sema a=>exact .sema (F a)
  | fin a=>exact .fin (F a)
 ·intro x f A;rcases List.mem_or_eq_of_mem_set f with f|rfl
  ·exact I.oldC x f A
  ·exact I.oldC (gw,hw) (List.mem_of_getElem? o) h0
end
section
open Go.ConcR (KK wgBlock WgAt stA smA rd wr)
variable {P:Program} {Φ:Value->World->Prop} {ty:TypeId} {C Wg:Nat} {md:MT} {d:Nat} {sy:Sy} {n0:Nat} {w0:World} {ps:List Script} {h:LH} {ws:Crew} {w:World} {t:Trace} {sl:Option (Nat×Nat)}
variable {i:Nat}{st sm:Int}{g:Goroutine}
theorem Mode.same{x y:Goroutine×LH}(m:Mode ws md st sm)(g:ws[i]?=some x)(h1:stg y.2=stg x.2\/(5<=stg x.2/\stg x.2<=7/\5<=stg y.2/\stg y.2<=7)):Mode (ws.set i y) md st sm:=by
 have u:cntW y.2=cntW x.2:=by
  unfold cntW;rcases h1 with h1|⟨a,_,b,_⟩
  ·rw[h1]
  ·rw[if_pos a,if_pos b]
 have f:Vw (ws.set i y)=Vw ws:=by have:=U7 ws i x y g;omega
 have q:=List.mem_of_getElem? g;have o:Calm ws->Calm (ws.set i y):=fun hc z d=>by
  rcases List.mem_or_eq_of_mem_set d with d|rfl
  ·exact hc z d
  ·rcases h1 with h1|⟨_,_,a,b⟩
   ·rw[h1];exact hc _ q
   ·omega
 have p:Quiet ws->Quiet (ws.set i y):=fun hc z d=>by
  rcases List.mem_or_eq_of_mem_set d with d|rfl
  ·exact hc z d
  ·have:=hc _ q;rcases h1 with h1|⟨a,_⟩<;>omega
 cases m with
 | opn a b c=>rw[<- f];exact .opn (o a) (by rw[f];exact b) c
 | reg a b=>rw[<- f];exact .reg (o a) (by rw[f];exact b)
 | @last k t st a b c =>
  by_cases e:k=i
  ·subst e;have n:k<ws.length:=(List.getElem?_eq_some_iff.1 a).1;rw[g]at a;cases a;have s:stg y.2=stg x.2:=by rcases h1 with h1|⟨r,_⟩<;>omega
   refine .last (i:=k) (x:=y) (by rw[List.getElem?_set_self n]) (by rw[s];exact b) fun j z d h=>?_;rcases Zm d with⟨rfl,rfl⟩|⟨_,d⟩
   ·exact absurd rfl h
   ·exact c j z d h
  ·refine .last (i:=k) (x:=t) (by rw[List.getElem?_set_ne (fun l=>e l.symm)];exact a) b fun j z d h=>?_;rcases Zm d with⟨rfl,rfl⟩|⟨_,d⟩
   ·have:=c j x g (fun l=>e l.symm);rcases h1 with h1|⟨r,_⟩<;>omega
   ·exact c j z d h
 | sema a=>exact .sema (p a)
 | fin a=>exact .fin (p a)
theorem Mode.isLast{x:Goroutine×LH}(m:Mode ws md st sm)(f:ws[i]?=some x)(h2:2<=stg x.2)(k:stg x.2<=4) :
  md=.reg/\sm=0/\(stg x.2=2->st=0)/\(stg x.2≠2->st=1)/\∀ j y,ws[j]?=some y->j≠i->stg y.2<=1:=by
 have d:=List.mem_of_getElem? f;cases m with
 | opn a b _=>have:=a _ d;omega
 | reg a b=>have:=a _ d;omega
 | @last h l st a b c =>
  have e:h=i:=Classical.byContradiction fun e=>by have:=c i x f (fun g=>e g.symm);omega
  subst e;rw[f]at a;cases a;exact⟨rfl,rfl,fun e=>by rcases b with⟨b,_⟩|⟨_,b⟩;omega;exact b,fun e=>by rcases b with⟨_,b⟩|⟨b,_⟩;exact b;omega,c⟩
 | sema a=>have:=a _ d;omega
 | fin a=>have:=a _ d;omega
theorem Dg{y:Goroutine×LH}(a:i<ws.length)(b:(stg y.2=4\/stg y.2=3)/\st=1\/stg y.2=2/\st=0)(c:∀ j z,ws[j]?=some z->j≠i->stg z.2<=1):Mode (ws.set i y) .reg st 0:=by
 refine .last (i:=i) (x:=y) (by rw[List.getElem?_set_self a]) b fun j z d e=>?_;rcases Zm d with⟨rfl,_⟩|⟨_,d⟩
 ·exact absurd rfl e
 ·exact c j z d e
theorem W0.of(I:InvW P ty C Wg md d sy n0 w0 ps h ws w t){x:Goroutine×LH}(b:ws[i]?=some x)(h2:2<=stg x.2):∃ st,WgAt ty Wg w st 0/\Mode ws md st 0:=by
 obtain⟨st,sm,h1,m⟩:=I.mode;have c:=List.mem_of_getElem? b;have e:sm=0:=by
  cases m with
  | sema a=>have:=a _ c;omega
  | _=>rfl
 subst e;exact⟨st,h1,m⟩
theorem Wj{h:LH}(k:h.todo≠[])(s d':Nat):stg (h.to s d')=s:=by rw[Yj (show (h.to s d').todo≠[] from k),Za]
theorem Hk(g:Nat)(fn:FuncId)(pos:String):MemOp.ofEvents g fn pos #[]=#[]:=rfl
theorem J5(w:World):Aside Wg w w:=⟨rfl,rfl,rfl,rfl,fun _ _=>rfl⟩
theorem InvW.lib(I:InvW P ty C Wg md d sy n0 w0 ps h ws w t){i:Nat}{gw:Goroutine}{hw:LH}(r:ws[i]?=some (gw,hw))(G:Kept C hw)(h1:1<=hw.pend.length)(h7:hw.pend.length<=7){K:Goroutine->LH->Prop}(hm:LibMove P ty Wg K hw.pend.length hw.dp gw hw)(fn:FuncId)(pos:String) :
  ∃ g' h' w' es o,K g' h'/\stepG P false gw w=.go g' w' es/\InvW P ty C Wg md d o n0 w0 ps h (ws.set i (g',h')) w' (t++MemOp.ofEvents (i+1) fn pos es)/\(∀ st,WgAt ty Wg w st 0->(∃ M,WgAt ty Wg w' M 0)\/(mayWake P gw=true/\(g'.status=.running\/g'.status=.finished))):=by
 have g:=G.ne;have V:i<ws.length:=(List.getElem?_eq_some_iff.1 r).1;have W:stg hw=hw.pend.length:=Yj g;obtain⟨t1,t2⟩:=I.tr i _ r;obtain⟨j0,t3⟩:=t2 g;simp only at t1 t3;have sp:∀ es:Array Event,(∀ e∈es,LibE Wg (i+1) e)->Spares (MemOp.ofEvents (i+1) fn pos es) (ownC (cellsOf h ws) C (i+1)):=fun es o0=>.sync I.mem (syncOps (sy:=sy) j0 o0);generalize hs:hw.pend.length=s at hm h1 h7 W t3;generalize N:hw.dp=dd at hm t1;cases hm with
 | idle nx a1 a2 B D =>
  obtain⟨st,f,m⟩:=W0.of I r (by show 2<=stg hw;omega);obtain⟨l,E⟩:=D w ⟨st,f⟩;obtain⟨o,A⟩:=I.syncW (g':=nx w) (h':=hw) (fn:=fn) (pos:=pos) (es:=#[]) r g rfl rfl (fun e he=>by simp at he) (J5 w) (.lib G (by omega) (by omega) (by rw[hs,N];exact l)) (by rw[N];rfl) (fun h6=>by rw[Hk,Array.append_empty];exact t3 (by omega)) ⟨st,0,f,m.same r (.inl rfl)⟩;exact⟨_,hw,w,#[],o,E,B w ⟨st,f⟩,A,fun _ _=>.inl ⟨st,f⟩⟩
 | rel nx B D =>
  obtain⟨st,f,m⟩:=W0.of I r (by show 2<=stg hw;omega);obtain⟨l,E⟩:=D w ⟨st,f⟩;obtain⟨o,A⟩:=I.syncW (g':=nx w) (h':=hw.to 6 0) (fn:=fn) (pos:=pos) (es:=#[Go.ConcR.mk (.releaseMerge (stA Wg))]) r g rfl rfl (fun e he=>by
    rw[Array.mem_singleton]at he;subst he;exact .inr (.inr (.inl ⟨_,rfl⟩))) (J5 w) (.libTo G (by omega) (by omega) l) (by rw[N,Jz];rfl)
   (fun _=>I.mem.ti.rel (fun k G=>G.2) (by rw[t1]) fn pos) ⟨st,0,f,m.same r (.inr ⟨by show 5<=stg hw;omega,by show stg hw<=7;omega,by rw[Wj g];omega,by rw[Wj g];omega⟩)⟩
  exact⟨_,_,w,_,o,E,B w ⟨st,f⟩,A,fun _ _=>.inl ⟨st,f⟩⟩
 | dis nx B D =>
  obtain⟨st,f,m⟩:=W0.of I r (by show 2<=stg hw;omega);obtain⟨l,E⟩:=D w ⟨st,f⟩;have y:∀ e∈(#[Go.ConcR.mk .disable]:Array Event),LibE Wg (i+1) e:=fun e he=>by rw[Array.mem_singleton]at he;subst he;exact .inl rfl
  obtain⟨o,A⟩:=I.syncW (g':=nx w) (h':=hw.to 5 1) (fn:=fn) (pos:=pos) (es:=#[Go.ConcR.mk .disable]) r g rfl rfl y (J5 w) (.libTo G (by omega) (by omega) l) (by rw[N,Jz];rfl)
   (fun _=>(t3 (by omega)).own fn pos _ (fun j e he=>.inl (by
    have:=Array.mem_of_getElem? he;rw[Array.mem_singleton]at this;subst this;rfl)) (sp _ y)) ⟨st,0,f,m.same r (.inr ⟨by show 5<=stg hw;omega,by show stg hw<=7;omega,by rw[Wj g];omega,by rw[Wj g];omega⟩)⟩
  exact⟨_,_,w,_,o,E,B w ⟨st,f⟩,A,fun _ _=>.inl ⟨st,f⟩⟩
 | add nx B D a5 =>
  obtain⟨st,f,m⟩:=W0.of I r (by show 2<=stg hw;omega);have k0:=I.count;have y:∀ e∈(#[rd (stA Wg),wr (stA Wg)]:Array Event),LibE Wg (i+1) e:=fun e he=>by
   simp only[List.mem_toArray,List.mem_cons,List.not_mem_nil,or_false]at he;rcases he with rfl|rfl
   ·exact .inr (.inr (.inr (.inr (.inl ⟨_,_,rfl,rfl⟩))))
   ·exact .inr (.inr (.inr (.inr (.inl ⟨_,_,rfl,rfl⟩))))
  have hR:Rel (t++MemOp.ofEvents (i+1) fn pos #[rd (stA Wg),wr (stA Wg)]) (i+1) (stA Wg) (ownC (cellsOf h ws) C (i+1)):=(t3 (by omega)).own fn pos _ (fun j e he=>.inr (by
   have hm:=Array.mem_of_getElem? he;simp only[List.mem_toArray,List.mem_cons,List.not_mem_nil,or_false]at hm;refine⟨?_,?_⟩
   ·rcases hm with rfl|rfl
    ·exact⟨_,_,rfl⟩
    ·exact⟨_,_,rfl⟩
   ·rw[t1,Zn]
    ·omega
    ·intro e' m0;have Q:e'∈(#[rd (stA Wg),wr (stA Wg)]:Array Event):=by
      obtain⟨k,O⟩:=Array.getElem?_of_mem m0;rw[Array.getElem?_extract]at O;split at O
      ·exact Array.mem_of_getElem? O
      ·cases O
     simp only[List.mem_toArray,List.mem_cons,List.not_mem_nil,or_false]at Q;rcases Q with rfl|rfl<;>exact⟨nofun,nofun⟩)) (sp _ y)
  have H:cntW hw=1:=by unfold cntW;rw[W];rfl
  have l0:1<=Vw ws:=by have:=le_Vw r;rw[H]at this;exact this
  have key:∀ v wt:Nat,wt<=1->v<2147483647->st=((v:Int)+1)*KK+(wt:Int)->(¬ (v=0/\wt=1)->Mode (ws.set i (nx v wt w,hw.to 1 1)) md ((v:Int)*KK+(wt:Int)) 0)->((v=0/\wt=1)->Mode (ws.set i (nx v wt w,hw.to 4 1)) md ((v:Int)*KK+(wt:Int)) 0) ->
    ∃ g' h' w' es o,K g' h'/\stepG P false gw w=.go g' w' es/\InvW P ty C Wg md d o n0 w0 ps h (ws.set i (g',h')) w' (t++MemOp.ofEvents (i+1) fn pos es)/\(∀ st,WgAt ty Wg w st 0->(∃ M,WgAt ty Wg w' M 0)\/(mayWake P gw=true/\(g'.status=.running\/g'.status=.finished))):=by
   intro v wt b1 b2 e m1 m2;rw[e]at f;have u:=f.setSt ((v:Int)*KK+(wt:Int));by_cases e0:v=0/\wt=1
   ·obtain⟨l,E⟩:=D v wt w b1 b2 f e0;obtain⟨o,A⟩:=I.syncW (g':=nx v wt w) (h':=hw.to 4 1) (fn:=fn) (pos:=pos) (es:=#[rd (stA Wg),wr (stA Wg)]) r g rfl rfl y (aside_setCell w (stA Wg) _) (.libTo G (by omega) (by omega) l) (by rw[N,Jz];rfl) (fun _=>hR) ⟨_,0,u,m2 e0⟩;exact⟨_,_,_,_,o,E,B v wt w b1 b2 f,A,fun _ _=>.inl ⟨_,u⟩⟩
   ·obtain⟨l,E⟩:=a5 v wt w b1 b2 f e0;obtain⟨o,A⟩:=I.syncW (g':=nx v wt w) (h':=hw.to 1 1) (fn:=fn) (pos:=pos) (es:=#[rd (stA Wg),wr (stA Wg)]) r g rfl rfl y (aside_setCell w (stA Wg) _) (.libTo G (by omega) (by omega) l) (by rw[N,Jz];rfl) (fun _=>hR) ⟨_,0,u,m1 e0⟩;exact⟨_,_,_,_,o,E,B v wt w b1 b2 f,A,fun _ _=>.inl ⟨_,u⟩⟩
  have F:∀ g',Vw (ws.set i (g',hw.to 1 1))=Vw ws-1:=fun g'=>by
   have:=U7 ws i _ (g',hw.to 1 1) r;have X:cntW (hw.to 1 1)=0:=by unfold cntW;rw[Wj g];rfl
   simp only at this;rw[H,X]at this;omega
  have S:Calm ws->∀ g',Calm (ws.set i (g',hw.to 1 1)):=fun hc g' z R=>by
   rcases List.mem_or_eq_of_mem_set R with R|rfl
   ·exact hc z R
   ·right;left;exact Wj g _ _
  cases m with
  | @opn k p a b c =>
   refine key (Vw ws-1+p) 0 (by omega) (by omega) ?_ (fun _=>?_) (fun e=>absurd e.2 (by omega))
   ·simp only[KK];omega
   ·have:=Mode.opn (p:=p) (k:=k) (S a (nx (Vw ws-1+p) 0 w)) (by rw[F];omega) c;rw[F]at this;have e:(((Vw ws-1:Nat):Int)+(p:Int))*KK=(((Vw ws-1+p:Nat):Int))*KK+((0:Nat):Int):=by simp
    rw[<- e];exact this
  | reg a b =>
   refine key (Vw ws-1) 1 (by omega) (by omega) ?_ (fun e=>?_) (fun e=>?_)
   ·simp only[KK];omega
   ·have:=Mode.reg (S a (nx (Vw ws-1) 1 w)) (by rw[F];omega);rw[F]at this;exact this
   ·rw[show ((Vw ws-1:Nat):Int)*KK+((1:Nat):Int)=1 by rw[e.1];simp];refine Dg V (.inl ⟨.inl (Wj g _ _),rfl⟩) fun j z R J=>?_;have hc:=a z (List.mem_of_getElem? R);rcases Nat.lt_or_ge (stg z.2) 5 with h5|h5
    ·omega
    ·exfalso
     -- two q0 counted
     have h2:=U7 ws i _ (gw,hw.to 1 1) r;have X:cntW (hw.to 1 1)=0:=by unfold cntW;rw[Wj g];rfl
     simp only at h2;rw[H,X]at h2;have h3:=le_Vw (ws:=ws.set i (gw,hw.to 1 1)) (i:=j) (x:=z) (by rw[List.getElem?_set_ne (fun e=>J e.symm)];exact R);have Y:cntW z.2=1:=by unfold cntW;rw[if_pos h5]
     rw[Y]at h3;omega
  | @last i' x' st a b c =>
   exfalso;by_cases e:i'=i
   ·subst e;rw[r]at a;cases a;rcases b with⟨b|b,_⟩|⟨b,_⟩<;>(simp only at b;omega)
   ·have:=c i _ r (fun e'=>e e'.symm);simp only at this;omega
  | fin a=>have:=a _ (List.mem_of_getElem? r);simp only at this;omega
 | load nx B D =>
  obtain⟨st,f,m⟩:=W0.of I r (by show 2<=stg hw;omega);obtain⟨L,_,_,Y,q⟩:=m.isLast r (by show 2<=stg hw;omega) (by show stg hw<=4;omega);have e:=Y (by show stg hw≠2;omega);subst e;obtain⟨l,E⟩:=D w f;have y:∀ e∈(#[rd (stA Wg)]:Array Event),LibE Wg (i+1) e:=fun e he=>by rw[Array.mem_singleton]at he;subst he;exact .inr (.inr (.inr (.inr (.inl ⟨_,_,rfl,rfl⟩))))
  obtain⟨o,A⟩:=I.syncW (g':=nx w) (h':=hw.to 3 1) (fn:=fn) (pos:=pos) (es:=#[rd (stA Wg)]) r g rfl rfl y (J5 w) (.libTo G (by omega) (by omega) l) (by rw[N,Jz];rfl)
   (fun _=>(t3 (by omega)).own fn pos _ (fun j e he=>.inr (by
    obtain⟨J,rfl⟩:=Array.getElem?_eq_some_iff.1 he;have U:j=0:=by simpa using J
    subst U;exact⟨⟨_,_,rfl⟩,by rw[t1];simp[deafBehind]⟩)) (sp _ y)) ⟨1,0,f,by rw[L];exact Dg V (.inl ⟨.inr (Wj g _ _),rfl⟩) q⟩
  exact⟨_,_,w,_,o,E,B w f,A,fun _ _=>.inl ⟨_,f⟩⟩
 | store nx B D =>
  obtain⟨st,f,m⟩:=W0.of I r (by show 2<=stg hw;omega);obtain⟨L,_,_,Y,q⟩:=m.isLast r (by show 2<=stg hw;omega) (by show stg hw<=4;omega);have e:=Y (by show stg hw≠2;omega);subst e;obtain⟨l,E⟩:=D w f;have y:∀ e∈(#[wr (stA Wg)]:Array Event),LibE Wg (i+1) e:=fun e he=>by rw[Array.mem_singleton]at he;subst he;exact .inr (.inr (.inr (.inr (.inl ⟨_,_,rfl,rfl⟩))))
  have u:=f.setSt 0;obtain⟨o,A⟩:=I.syncW (g':=nx w) (h':=hw.to 2 1) (fn:=fn) (pos:=pos) (es:=#[wr (stA Wg)]) r g rfl rfl y (aside_setCell w (stA Wg) _) (.libTo G (by omega) (by omega) l) (by rw[N,Jz];rfl)
   (fun _=>(t3 (by omega)).own fn pos _ (fun j e he=>.inr (by
    obtain⟨J,rfl⟩:=Array.getElem?_eq_some_iff.1 he;have U:j=0:=by simpa using J
    subst U;exact⟨⟨_,_,rfl⟩,by rw[t1];simp[deafBehind]⟩)) (sp _ y)) ⟨0,0,u,by rw[L];exact Dg V (.inr ⟨Wj g _ _,rfl⟩) q⟩
  exact⟨_,_,_,_,o,E,B w f,A,fun _ _=>.inl ⟨_,u⟩⟩
 | sem nx a0 B D =>
  obtain⟨st,f,m⟩:=W0.of I r (by show 2<=stg hw;omega);obtain⟨L,_,X,_,q⟩:=m.isLast r (by show 2<=stg hw;omega) (by show stg hw<=4;omega);have e:=X (by show stg hw=2;omega);subst e;obtain⟨l,E⟩:=D w f;have y:∀ e∈semEvents (smA Wg),LibE Wg (i+1) e:=fun e he=>by
   simp only[semEvents,List.mem_toArray,List.mem_cons,List.not_mem_nil,or_false]at he;rcases he with rfl|rfl|rfl|rfl
   ·exact .inl rfl
   ·exact .inr (.inr (.inr (.inr (.inl ⟨_,_,rfl,rfl⟩))))
   ·exact .inr (.inr (.inr (.inr (.inl ⟨_,_,rfl,rfl⟩))))
   ·exact .inr (.inl rfl)
  have u:=f.setSm 1;obtain⟨o,A⟩:=I.syncW (g':=nx w) (h':=hw.to 1 1) (fn:=fn) (pos:=pos) (es:=semEvents (smA Wg)) r g rfl rfl y (aside_setCell w (smA Wg) _) (.libTo G (by omega) (by omega) l) (by rw[N,Jz];rfl)
   (fun _=>(t3 (by omega)).own fn pos _ (fun j e he=>by
    obtain⟨J,rfl⟩:=Array.getElem?_eq_some_iff.1 he;have u0:j<4:=by simpa[semEvents] using J
    rw[t1];rcases j with _|_|_|_|j
    ·exact .inl rfl
    ·exact .inr ⟨⟨_,_,rfl⟩,by rw[show deafBehind 1 ((semEvents (smA Wg)).extract 0 (0+1))=2 from rfl];omega⟩
    ·exact .inr ⟨⟨_,_,rfl⟩,by rw[show deafBehind 1 ((semEvents (smA Wg)).extract 0 (0+1+1))=2 from rfl];omega⟩
    ·exact .inl rfl
    ·omega) (sp _ y)) ⟨0,1,u,by
     rw[L];refine .sema fun z R=>?_;obtain⟨j,J⟩:=List.getElem?_of_mem R;rcases Zm J with⟨rfl,rfl⟩|⟨Z,J⟩
     ·rw[Wj g];omega
     ·exact q j z J Z⟩
  exact⟨_,_,_,_,o,E,B w f,A,fun _ _=>.inr ⟨a0,l.status⟩⟩
 | @quit n s0 gg g' hh es a1 a2 B D =>
  obtain⟨st,sm,f,m⟩:=I.mode;have y:∀ e∈es,LibE Wg (i+1) e:=fun e he=>by
   have:=a1 e he;obtain⟨loc,x0,s'⟩:=e;unfold Event.mute at this;split at this
   ·rename_i hh;cases hh;exact .inl rfl
   ·rename_i hh;cases hh;exact .inr (.inl rfl)
   ·cases this
  obtain⟨o,A⟩:=I.syncW (g':=g') (h':=hw.to 1 (deafBehind dd es)) (fn:=fn) (pos:=pos) (es:=es) r g rfl rfl y (J5 w) (.libTo G (by omega) (by omega) (.quit B)) (by rw[N,Jz])
   (fun _=>(t3 (by omega)).own fn pos _ (fun j e he=>.inl (touch_mute (a1 e (Array.mem_of_getElem? he)))) (sp _ y)) ⟨st,sm,f,m.same r (.inl (by rw[Wj g];exact W.symm))⟩
  exact⟨_,_,w,_,o,D,a2 w,A,fun M h'=>.inl ⟨M,h'⟩⟩
theorem crew_map'{ws:Crew}{f:Goroutine->Goroutine}(hw:∀ x∈ws,f x.1=x.1):(crew g ws).map f=crew (f g) ws:=by
 unfold crew;simp only[List.map_toArray,List.map_cons,List.map_map];congr 2;exact List.map_congr_left hw
theorem Hb(I:InvW P ty C Wg md d sy n0 w0 ps h ws w t){gm:Goroutine}{gw:Goroutine}{hw:LH}(f:ws[i]?=some (gw,hw))(a:gw.status=.running){K:Goroutine->LH->Prop}(hm:MovesW P ty Wg C gw hw K) :
  ∃ g' h' w' ops b,K g' h'/\runT P (crowd (crew gm ws) w sl) (i+1)=(.next (crowd (crew (woken P gw g' w' gm) (ws.set i (g',h'))) w' sl),ops) /\
   InvW P ty C Wg md d b n0 w0 ps h (ws.set i (g',h')) w' (t++ops)/\(∀ st,WgAt ty Wg w st 0->(∃ s,WgAt ty Wg w' s 0)\/(mayWake P gw=true/\(g'.status=.running\/g'.status=.finished))):=by
 have e:(crew gm ws)[i+1]?=some gw:=by rw[Jo,f];rfl
 have run:∀ {g':Goroutine} {w':World} {es:Array Event} (h':LH),stepG P false gw w=.go g' w' es ->
   runT P (crowd (crew gm ws) w sl) (i+1)=(.next (crowd (crew (woken P gw g' w' gm) (ws.set i (g',h'))) w' sl),MemOp.ofEvents (i+1) gw.frame.fn gw.frame.place es):=by
  intro g' w' es h' q;rw[runT_crowd_go e (by rw[show (i+1==0)=false from rfl];exact q),crew_map',G7 (woken P gw g' w' gm) ws i (g',h')];intro x F;unfold woken;split
  ·exact again_running _ (I.st x F).status
  ·rfl
 rcases hm with B|⟨_,⟨h0,n,g',es,u,v,y,z⟩|⟨g,k,p,fr,cs,N,rfl,q,A⟩|⟨D,h1,k,hm⟩⟩
 ·rw[B]at a;cases a
 ·exact⟨g',_,w,_,sy,z,run _ (v w),I.sayW f h0 u _ _ y,fun st h'=>.inl ⟨st,h'⟩⟩
 ·have c:cellsOf h ws (i+1)=hw.get:=by simp[cellsOf,f]
  obtain⟨g',w',es,h',b1,j,l,m⟩:=q w (by rw[<- c];exact I.mem.fits (i+1));obtain⟨⟨c1,c2,c3⟩,c4,c5⟩:=A g' _ m;have r:w'.heap[Wg]?=w.heap[Wg]?:=j.other Wg (I.mem.ti.spl Wg I.wg.1) (by
   rintro⟨o,E⟩;have:=I.mem.off Wg I.wg.1 (i+1);rw[c,E]at this;cases this)
  exact⟨g',_,w',_,sy,c5,run _ b1,I.stepW (h':={ hw with get:=h' }) (k':=h') f g k rfl rfl rfl rfl _ _ j l (.work g k p c4),fun st h'=>.inl ⟨st,r.trans h'⟩⟩
 ·obtain⟨g',h',w',es,b,b1,j,l,m⟩:=I.lib f D h1 k hm gw.frame.fn gw.frame.place;exact⟨g',h',w',_,b,b1,run _ j,l,m⟩
def TopW(P:Program)(n0:Nat)(w0:World)(Φ:Value->World->Prop)(ty:TypeId)(C Wg:Nat)(md:MT)(d:Nat)(ps:List Script)(g:Goroutine)(h:LH):Prop :=
 ∀ sy ws w sl t,InvW P ty C Wg md d sy n0 w0 ps h ws w t->EndsWell P Φ (crowd (crew g ws) w sl) t
theorem Dc(c:awake g)(hw:∀ x∈ws,WSt P ty Wg C x.1 x.2):∀ a∈crew g ws,awake a:=by
 intro a b;unfold crew at b;simp only[List.mem_toArray,List.mem_cons,List.mem_map]at b;rcases b with rfl|⟨x,d,rfl⟩
 ·exact c
 ·intro t e;rcases(hw x d).status with h|h<;>rw[h]at e<;>cases e
theorem driveW(n:g.status=.running)(b:∀ sy ws w sl t,InvW P ty C Wg md d sy n0 w0 ps h ws w t->∃ q ops,runT P (crowd (crew g ws) w sl) 0=(.next q,ops)/\EndsWell P Φ q (t++ops)):TopW P n0 w0 Φ ty C Wg md d ps g h:=by
 have o:∀ x r w',woken P x r w' g=g:=fun x r w'=>by
  unfold woken;split
  ·exact again_running _ (.inl n)
  ·rfl
 intro sy ws w sl t m;have v:=SysW.all ws m.st
 induction v generalizing w sl t sy with
 | mk ws K hm D z =>
  obtain⟨i,B,k,l,a,c,f⟩:=crowd_pick (P:=P) (gs:=crew g ws) (w:=w) (sl:=sl) (Dc (fun t e=>by rw[n]at e;cases e) m.st) ⟨0,g,Jc g ws,n⟩;have I:=m.at k;cases i with
  | zero =>
   rw[Jc]at a;cases a;obtain⟨q,ops,hr,he⟩:=b sy ws (w.at k) l t I;exact EndsWell.next (f.trans hr) he
  | succ i =>
   rw[Jo]at a;cases j:ws[i]? with
   | none=>rw[j]at a;cases a
   | some y =>
    rw[j]at a;cases a;obtain⟨gw,hw⟩:=y;have p:i<ws.length:=(List.getElem?_eq_some_iff.1 j).1;obtain⟨g',h',w',ops,A,u,hr,s,_⟩:=Hb (sl:=l) (gm:=g) I j c (hm i gw hw j);rw[o]at hr;exact EndsWell.next (f.trans hr) (z i g' h' p u _ _ _ _ s)
end
section
open Go.ConcR (KK wgBlock WgAt stA smA rd wr)
open Go.ConcN (WgLive)
open Go.Conc.Lib Go.RowKit
open WgW
variable {P:Program} {Φ:Value->World->Prop} {ty:TypeId} {C Wg:Nat} {md md':MT} {d d':Nat} {sy:Sy} {n0:Nat} {w0:World} {ps:List Script} {h:LH} {ws:Crew} {w:World} {t:Trace} {sl:Option (Nat×Nat)}
variable {g:Goroutine}{w':World}{es:Array Event}{k:Nat}{cs:List Frame}
theorem InvW.live(I:InvW P ty C Wg md d sy n0 w0 ps h ws w t):WgLive ty Wg w:=by
 obtain⟨st,sm,h1,_⟩:=I.mode;exact⟨st,sm,h1⟩
theorem Ul(hw:∀ x∈ws,WSt P ty Wg C x.1 x.2){g':Goroutine}(a:stepG P true g w=.go g' w' es) :
  runT P (crowd (crew g ws) w sl) 0=(.next (crowd (crew g' ws) w' sl),MemOp.ofEvents 0 g.frame.fn g.frame.place es):=by
 rw[runT_crowd_go (Jc g ws) a,crew_map',Ke];intro x b;unfold woken;split
 ·exact again_running _ (hw x b).status
 ·rfl
theorem InvW.sync0(I:InvW P ty C Wg md d sy n0 w0 ps h ws w t){fn:FuncId}{pos:String}(i:∀ e∈es,LibE Wg 0 e)(a:Aside Wg w w')(s:deafBehind d es=d')(b:∃ st sm,WgAt ty Wg w' st sm/\Mode ws md' st sm) :
  ∃ l,InvW P ty C Wg md' d' l n0 w0 ps h ws w' (t++MemOp.ofEvents 0 fn pos es):=by
 have f:=syncOps (sy:=sy) (fn:=fn) (pos:=pos) I.wg.2.2 i;have hu:∀ op∈MemOp.ofEvents 0 fn pos es,op.g=0:=fun op k=>(Qw k).1;have hCW:C≠Wg:=fun e=>by have:=I.spC;rw[e]at this;exact this I.wg.1
 obtain⟨v,⟨o,p,q,y,z⟩,A⟩:=I.outC;refine⟨sy.deafen 0 (Deaf (t++MemOp.ofEvents 0 fn pos es) 0),?_,I.wg,I.st,?_,I.pend,I.small,by rw[Deaf_own,I.deaf0];exact s,b,I.oldC,I.spC,v,⟨o,p,q,by rw[a.block C hCW];exact y,z⟩,G0 A (.syncO I.mem I.spC f)⟩
 ·exact I.mem.sync (Nat.succ_pos _) (fun e=>e) f I.wg.1 I.wg.2.1 a.size a.block a.os a.tape a.output
 ·intro j x u;obtain⟨n,m⟩:=I.tr j x u;exact⟨by rw[Deaf_other t (Nat.succ_ne_zero j).symm _ hu];exact n,fun c=>⟨(m c).1,fun r=>((m c).2 r).other hu (Nat.succ_ne_zero j).symm (.sync I.mem f)⟩⟩
theorem Ww(n:g.status=.running)(H:∀ (w:World) (st sm:Int) (ws:Crew),WgAt ty Wg w st sm->Mode ws md st sm->Vw ws<2147483646 ->
  ∃ md' d' g' w' es,stepG P true g w=.go g' w' es/\(∀ e∈es,LibE Wg 0 e)/\Aside Wg w w'/\deafBehind d es=d'/\(∃ b a,WgAt ty Wg w' b a/\Mode ws md' b a)/\TopW P n0 w0 Φ ty C Wg md' d' ps g' h):TopW P n0 w0 Φ ty C Wg md d ps g h:=by
 refine driveW n fun sy ws w sl t I=>?_;obtain⟨st,sm,h1,h2⟩:=I.mode;obtain⟨md',d',g',w',es,f,i,j,k,l,m⟩:=H w st sm ws h1 h2 I.count;obtain⟨o,c⟩:=I.sync0 (fn:=g.frame.fn) (pos:=g.frame.place) i j k l;exact⟨_,_,Ul I.st f,m _ _ _ _ _ c⟩
theorem Jt{Stop:Goroutine->World->Prop}(K:∀ g,(∀ w,WgLive ty Wg w->Stop g w)->TopW P n0 w0 Φ ty C Wg md d ps g h):∀ (m:Nat) (g:Goroutine) (w:World),WgLive ty Wg w->Goes P true (RM ty Wg) Go.ConcR.DC0 Stop m g w->TopW P n0 w0 Φ ty C Wg md d ps g h:=by
 intro m
 induction m with
 | zero=>intro g w _ b;exact K g fun a h₁=>b a fun _=>h₁
 | succ m l =>
  intro g w _ b;rcases b with b|⟨hr,b⟩
  ·exact K g fun a h₁=>b a fun _=>h₁
  ·refine Ww hr fun a st sm ws h1 h2 _=>?_;have c:WgLive ty Wg a:=⟨st,sm,h1⟩
   obtain⟨g',w',es,f,⟨i,j⟩,k⟩:=goes_elim (b a fun _=>c);subst i j;exact⟨md,d,g',w',#[],f,fun e he=>by simp at he,J5 w',rfl,⟨st,sm,h1,h2⟩,l g' w' c k⟩
theorem Wx{m:Mark}{Next:Goroutine->World->Prop}(j:LibE Wg 0 (Go.ConcR.mk m))(k:deafBehind d #[Go.ConcR.mk m]=d')(c:∀ w,WgLive ty Wg w->AtMark P m Next g w)(b:∃ w,WgLive ty Wg w)
 (K:∀ g' w,WgLive ty Wg w->Next g' w->TopW P n0 w0 Φ ty C Wg md d' ps g' h):TopW P n0 w0 Φ ty C Wg md d ps g h:=by
 obtain⟨a,b⟩:=b;refine Ww (c a b).1 fun w st sm ws h1 h2 _=>?_;obtain⟨_,g',f,i⟩:=c w ⟨st,sm,h1⟩;exact⟨md,d',g',w,_,f,fun e he=>by rw[Array.mem_singleton]at he;subst he;exact j,J5 w,k,⟨st,sm,h1,h2⟩,K g' w ⟨st,sm,h1⟩ i⟩
theorem libE_cells{g:Nat}:∀ e∈(#[rd (stA Wg),wr (stA Wg)]:Array Event),LibE Wg g e:=fun e he=>by
 simp only[List.mem_toArray,List.mem_cons,List.not_mem_nil,or_false]at he;rcases he with rfl|rfl
 ·exact .inr (.inr (.inr (.inr (.inl ⟨_,_,rfl,rfl⟩))))
 ·exact .inr (.inr (.inr (.inr (.inl ⟨_,_,rfl,rfl⟩))))
theorem U9{g:Nat}:∀ e∈(#[rd (stA Wg)]:Array Event),LibE Wg g e:=fun e he=>by
 rw[Array.mem_singleton]at he;subst he;exact .inr (.inr (.inr (.inr (.inl ⟨_,_,rfl,rfl⟩))))
theorem libE_sem{g:Nat}:∀ e∈semEvents (smA Wg),LibE Wg g e:=fun e he=>by
 simp only[semEvents,List.mem_toArray,List.mem_cons,List.not_mem_nil,or_false]at he;rcases he with rfl|rfl|rfl|rfl
 ·exact .inl rfl
 ·exact .inr (.inr (.inr (.inr (.inl ⟨_,_,rfl,rfl⟩))))
 ·exact .inr (.inr (.inr (.inr (.inl ⟨_,_,rfl,rfl⟩))))
 ·exact .inr (.inl rfl)
theorem topW_add1{Next:Nat->Goroutine->World->Prop}(i:∀ w,WgLive ty Wg w->AtAdd1 P ty Wg Next g w)(j:∃ w,WgLive ty Wg w)
 (K:∀ v g' w,WgLive ty Wg w->Next (v+1) g' w->TopW P n0 w0 Φ ty C Wg (.opn k 1) 1 ps g' h):TopW P n0 w0 Φ ty C Wg (.opn k 0) 1 ps g h:=by
 obtain⟨f,j⟩:=j;refine Ww (i f j).1 fun w st sm ws h1 h2 n=>?_;obtain⟨_,i⟩:=i w ⟨st,sm,h1⟩;cases h2 with
 | opn a b c =>
  have e:((Vw ws:Int)+((0:Nat):Int))*KK=(Vw ws:Int)*KK:=by simp
  rw[e]at h1;obtain⟨g',l,m⟩:=i (Vw ws) (by omega) h1;have d:=h1.setSt (((Vw ws:Int)+1)*KK);exact⟨_,1,g',_,_,l,libE_cells,aside_setCell w (stA Wg) _,rfl,⟨_,0,d,.opn (p:=1) a b (by omega)⟩,K _ g' _ ⟨_,_,d⟩ m⟩
theorem topW_addW{L:WgLink}(H:WgLib P L)(j:∃ w,WgLive L.tWg Wg w)
 (t:∀ w,WgLive L.tWg Wg w->Idle P L.tWg Wg (AtMark P .disable (Idle P L.tWg Wg (AtAdd1 P L.tWg Wg fun v g w =>
   (v=1->Idle P L.tWg Wg (AtMark P (.read (smA Wg)) (Idle P L.tWg Wg (AtEn P L.tWg Wg cs L.add))) g w) /\
   (v≠1->Idle P L.tWg Wg (AtEn P L.tWg Wg cs L.add) g w)))) g w)
 (K:∀ g,RetOf L.add cs g->TopW P n0 w0 Φ L.tWg C Wg (.opn k 1) 0 ps g h):TopW P n0 w0 Φ L.tWg C Wg (.opn k 0) 0 ps g h:=by
 obtain⟨b,a⟩:=j;have j:∃ w,WgLive L.tWg Wg w:=⟨b,a⟩
 have s:∀ g w,WgLive L.tWg Wg w->Idle P L.tWg Wg (AtEn P L.tWg Wg cs L.add) g w->TopW P n0 w0 Φ L.tWg C Wg (.opn k 1) 1 ps g h:=by
  rintro g w hw ⟨m,o⟩;refine Jt (fun g d=>?_) m g w hw o;refine Wx (m:=.enable) (.inr (.inl rfl)) rfl d j fun g' w' c f=>?_;obtain⟨q,i⟩:=f;exact Jt (fun g d=>K g (d b a)) q g' w' c i
 obtain⟨m,o⟩:=t b a;refine Jt (fun g d=>?_) m g b a o;refine Wx (m:=.disable) (.inl rfl) rfl d j fun g' w' c f=>?_;obtain⟨q,i⟩:=f;refine Jt (fun g d=>?_) q g' w' c i;refine topW_add1 d j fun v g' w' c f=>?_;by_cases e:v+1=1
 ·obtain⟨u,p⟩:=f.1 e;refine Jt (fun g d=>?_) u g' w' c p;exact Wx (m:=.read (smA Wg)) (.inr (.inr (.inr (.inr (.inr ⟨rfl,_,.inl rfl,rfl⟩))))) rfl d j fun n r l f=>s n r l f
 ·exact s g' w' c (f.2 e)
theorem WSt.running{g:Goroutine}{h:LH}(a:WSt P ty Wg C g h)(h2:2<=stg h):g.status=.running:=by
 have b:∀ {s d:Nat} {g:Goroutine},Life P ty Wg s d g->2<=s->g.status=.running:=by
  intro s d g l f;cases l with
  | quit _=>omega
  | _=>assumption
 cases a with
 | old h0 _=>unfold stg at h2;rw[h0]at h2;simp at h2
 | work _ _ _ hw =>
  cases hw with
  | work _ _=>rfl
  | done _ l=>exact b l (by omega)
 | lib c h1 e l=>exact b l (by rw[<- Yj c.ne];exact h2)
theorem topW_sem{Next:Goroutine->World->Prop}(Q:∀ w,WgLive ty Wg w->AtSem P ty Wg Next g w)(L:∃ w,WgLive ty Wg w)(K:∀ g' w,WgLive ty Wg w->Next g' w->TopW P n0 w0 Φ ty C Wg .fin 1 ps g' h):TopW P n0 w0 Φ ty C Wg .reg 1 ps g h:=by
 obtain⟨G,L⟩:=L;obtain⟨B,q,_⟩:=Q G L;have l:∀ w',({ g with status:=.blocked }:Goroutine).again w'=g:=by
  intro w';obtain⟨x1,x2,x3,x4,x5⟩:=g;simp only at B q;subst B q;rfl
 have A:∀ x u w',woken P x u w' ({ g with status:=.blocked }:Goroutine)={ g with status:=.blocked }\/woken P x u w' ({ g with status:=.blocked }:Goroutine)=g:=by
  intro x u w';unfold woken;split
  ·exact .inr (l w')
  ·exact .inl rfl
 have J:∀ x u w',woken P x u w' g=g:=fun x u w'=>by
  unfold woken;split
  ·exact again_running _ (.inl B)
  ·rfl
 have main:∀ ws,SysW P ty Wg C ws->(∀ sy w sl t,InvW P ty C Wg .reg 1 sy n0 w0 ps h ws w t->EndsWell P Φ (crowd (crew g ws) w sl) t) /\
   (∀ sy w sl t,InvW P ty C Wg .reg 1 sy n0 w0 ps h ws w t->(∃ st,WgAt ty Wg w st 0)->EndsWell P Φ (crowd (crew { g with status:=.blocked } ws) w sl) t):=by
  intro ws Y
  induction Y with
  | mk ws K' hm hk H =>
   have R:∀ sy w sl t,InvW P ty C Wg .reg 1 sy n0 w0 ps h ws w t->(∃ st,WgAt ty Wg w st 0)->EndsWell P Φ (crowd (crew { g with status:=.blocked } ws) w sl) t:=by
    intro sy w sl t p ⟨st,E⟩;obtain⟨j,x,S,h2⟩ : ∃ (j:Nat) (x:Goroutine×LH),ws[j]?=some x/\2<=stg x.2:=by
     obtain⟨Z,sm,h1,h2⟩:=p.mode;cases h2 with
     | reg a b=>obtain⟨i,x,h3,h4⟩:=Vw_pos b;exact⟨i,x,h3,by omega⟩
     | @last i x st a b c=>exact⟨i,x,a,by omega⟩
     | sema a=>obtain⟨_,e⟩:=h1.unique E;cases e
    have N:x.1.status=.running:=(p.st x (List.mem_of_getElem? S)).running h2;obtain⟨i,X,k,s,d,m,f⟩:=crowd_pick (P:=P) (gs:=crew { g with status:=.blocked } ws) (w:=w) (sl:=sl) (Dc (fun t e=>by cases e) p.st) ⟨j+1,x.1,by rw[Jo,S];rfl,N⟩;have I:=p.at k;cases i with
    | zero=>rw[Jc]at d;cases d;cases m
    | succ i =>
     rw[Jo]at d;cases o:ws[i]? with
     | none=>rw[o]at d;cases d
     | some y =>
      rw[o]at d;cases d;obtain⟨gw,hw⟩:=y;have n:i<ws.length:=(List.getElem?_eq_some_iff.1 o).1;obtain⟨g',h',w',ops,F,z,hr,r,D⟩:=Hb (sl:=s) (gm:={ g with status:=.blocked }) I o m (hm i gw hw o);refine EndsWell.next (f.trans hr) ?_;rcases D st E with h0|⟨M,O⟩
      ·rcases A gw g' w' with e|e
       ·rw[e];exact(H i g' h' n z).2 _ _ _ _ r h0
       ·rw[e];exact(H i g' h' n z).1 _ _ _ _ r
      ·have e:woken P gw g' w' ({ g with status:=.blocked }:Goroutine)=g:=by
        unfold woken;rw[if_pos]
        ·exact l w'
        ·rw[M];rcases O with e|e<;>rw[e]<;>rfl
       rw[e];exact(H i g' h' n z).1 _ _ _ _ r
   refine⟨fun sy w sl t p=>?_,R⟩;obtain⟨i,X,k,s,d,m,f⟩:=crowd_pick (P:=P) (gs:=crew g ws) (w:=w) (sl:=sl) (Dc (fun t e=>by rw[B]at e;cases e) p.st) ⟨0,g,Jc g ws,B⟩;have I:=p.at k;cases i with
   | zero =>
    rw[Jc]at d;cases d;obtain⟨st,sm,h1,h2⟩:=I.mode;obtain⟨_,_,U,V⟩:=Q _ I.live;by_cases e:sm=0
    ·subst e;refine EndsWell.next (f.trans (Ul I.st (U ⟨st,h1⟩))) ?_;rw[Hk,Array.append_empty];exact R _ _ _ _ I ⟨st,h1⟩
    ·cases h2 with
     | sema a =>
      obtain⟨g',b1,W⟩:=V h1;have v:=h1.setSm 0;obtain⟨F,r⟩:=I.sync0 (fn:=g.frame.fn) (pos:=g.frame.place) (d':=1) (md':=.fin) libE_sem (aside_setCell _ (smA Wg) _) rfl ⟨0,0,v,.fin a⟩;exact EndsWell.next (f.trans (Ul I.st b1)) (K g' _ ⟨_,_,v⟩ W _ _ _ _ _ r)
     | reg a b=>exact absurd rfl e
     | last a b c=>exact absurd rfl e
   | succ i =>
    rw[Jo]at d;cases o:ws[i]? with
    | none=>rw[o]at d;cases d
    | some y =>
     rw[o]at d;cases d;obtain⟨gw,hw⟩:=y;have n:i<ws.length:=(List.getElem?_eq_some_iff.1 o).1;obtain⟨g',h',w',ops,F,z,hr,r,_⟩:=Hb (sl:=s) (gm:=g) I o m (hm i gw hw o);rw[J]at hr;exact EndsWell.next (f.trans hr) ((H i g' h' n z).1 _ _ _ _ r)
 intro sy ws w sl t p;exact(main ws (SysW.all ws p.st)).1 sy w sl t p
theorem topW_step{fr:Frame}{N:Goroutine->LH->Prop}(q:LStep P true (G fr cs) h N)(o:∀ g' h',N g' h'->TopW P n0 w0 Φ ty C Wg md d ps g' h'):TopW P n0 w0 Φ ty C Wg md d ps (G fr cs) h:=by
 refine driveW rfl fun sy ws w sl t I=>?_;obtain⟨g',w',es,k',hgo,tr,a,p⟩:=q w (I.mem.fits 0);refine⟨_,_,Ul I.st hgo,o g' _ p sy ws w' sl _ ?_⟩;obtain⟨hm,i⟩:=I.mem.step (j:=0) (Nat.succ_pos _) (fun e=>e) (G fr cs).frame.fn (G fr cs).frame.place tr a;have hu:∀ op∈MemOp.ofEvents 0 (G fr cs).frame.fn (G fr cs).frame.place es,op.g=0:=fun op f=>(Qw f).1;rw[Km h ws k' h.chans h.pend h.todo]at hm;obtain⟨v,b,y⟩:=I.outC;obtain⟨st,sm,s,u⟩:=I.mode;refine⟨hm,I.wg,I.st,?_,I.pend,I.small,?_,⟨st,sm,(i Wg I.wg.1).trans s,u⟩,I.oldC,I.spC,v,sizeC I.mem (g:=0) b tr,G0 y (.stepO (w':=w') I.mem (g:=0) b a)⟩
 ·intro j x r;obtain⟨m,k⟩:=I.tr j x r;refine⟨by rw[Deaf_other t (Nat.succ_ne_zero j).symm _ hu];exact m,fun c=>⟨(k c).1,fun n=>?_⟩⟩;exact((k c).2 n).other hu (Nat.succ_ne_zero j).symm (.step (w':=w') I.mem (Nat.succ_ne_zero j).symm (h':=k') a)
 ·rw[Deaf_own,Zn]
  ·exact I.deaf0
  ·intro e he;have:=a e he;unfold EvOk at this;refine⟨fun l=>?_,fun l=>?_⟩<;>(rw[l]at this;cases this)
end
section
open Go.ConcR (KK wgBlock WgAt stA smA rd wr)
open Go.ConcN (WgLive)
open Go.Conc.Lib Go.RowKit
open WgW
variable {P:Program} {Φ:Value->World->Prop} {ty:TypeId} {C Wg:Nat} {md md':MT} {d d':Nat} {sy:Sy} {n0:Nat} {w0:World} {ps:List Script} {h:LH} {ws:Crew} {w:World} {t:Trace} {sl:Option (Nat×Nat)}
variable {c:Array Value}{e:TypeId}
theorem Deaf_none{t:Trace}{g:Nat}(h:∀ op∈t,op.g≠g):Deaf t g=0:=by
 obtain⟨l⟩:=t;have e:=Deaf_append #[] g l;rw[show (#[]:Trace)++l.toArray=l.toArray by simp]at e;have h':∀ op∈l,op.g≠g:=fun op b=>h op (by simpa using b);have c:Deaf (#[]:Trace) g=0:=rfl;rw[show (⟨l⟩ : Trace)=l.toArray from rfl,e,c];clear e c h
 induction l with
 | nil=>rfl
 | cons a l i =>
  have f:a.g≠g:=h' a List.mem_cons_self;rw[List.foldl_cons];have d:deafStep g 0 a=0:=by unfold deafStep;split<;>simp[f]
  rw[d];exact i fun op b=>h' op (List.mem_cons_of_mem _ b)
theorem Rel.mute{t u:Trace}{i:Nat}{a:Addr}{ks:Key->Prop}(h:Rel t i a ks)(hu:∀ op∈u,op.act.touch?=none):Rel (t++u) i a ks:=by
 obtain⟨q,r,d⟩:=h;refine⟨q,r.app fun j f _ hc=>?_,fun k c p b e=>(d k c p b (e.untouched hu)).append⟩;have:=(Zy hu hc).1;omega
theorem InvW.free0(I:InvW P ty C Wg md d sy n0 w0 ps h ws w t):sy.dp 0=d/\sy.dp (ws.length+1)=0/\Deaf t (ws.length+1)=0:=by
 have c:¬ goneW ws (ws.length+1):=by
  rintro⟨x,b,_⟩;rw[List.getElem?_eq_none (Nat.le_refl _)]at b;cases b
 have h1:=I.mem.ti.hears 0 (fun e=>e);have h2:=I.mem.ti.hears (ws.length+1) c;have h3:Deaf t (ws.length+1)=0:=Deaf_none fun op a e=>by have:=I.mem.ti.who op a;omega
 exact⟨by rw[<- h1];exact I.deaf0,by rw[<- h2];exact h3,h3⟩
def keepC(F:Nat->Bool)(k:Cells)(C:Nat)(c1:Array Value)(e:TypeId):Cells:=fun r=>if r=C then some (true,.pending c1 e) else freezeC F k r
theorem topW_spawn{fr:Frame}{cs:List Frame}{F:Nat->Bool}{hc:Cells}{A:Deferred}{cc c1:Array Value}{j:Nat}{φ:Value->Cells->Prop}(S:Spawns P fr cs A)(O:∀ r x,r≠C->hc r=some x->x.1=false/\freezeC F h.get r=some x)
 (hC:h.get C=some (true,.pending c e))(L:hc C=some (true,.pending cc e))(s1:cc.size=c.size)(s2:c1.size=c.size)(k1:∀ (i:Nat) (v:Value),cc[i]?=some v->notHole v=true->c[i]?=some v/\isHole (.pending c1 e) i)
 (k2:∀ (i:Nat) (v:Value),c1[i]?=some v->notHole v=true->c[i]?=some v)(hw:WkG P ty Wg C (G (baseOf P [A]) []) ⟨hc,[],List.replicate 7 [],[(j,φ)]⟩)(R:ps.length+1<2147483646){h':LH}(N:h'.get=keepC F h.get C c1 e)
 (K:∀ k,TopW P n0 w0 Φ ty C Wg (.opn k 0) 0 (ps++[[(j,φ)]]) (G (fr.finish undef) cs) h')(k:Nat):TopW P n0 w0 Φ ty C Wg (.opn k 1) 0 ps (G fr cs) h:=by
 refine driveW rfl fun sy ws w sl t I=>?_;refine⟨_,_,runT_crowd_spawn (Jc (G fr cs) ws) (S.step w),?_⟩;have e0:MemOp.ofEvents 0 (G fr cs).frame.fn (G fr cs).frame.place #[]=#[]:=rfl;rw[e0,crew_size];let ch:Goroutine×LH:=(G (baseOf P [A]) [],⟨hc,[],List.replicate 7 [],[(j,φ)]⟩)
 have u:((crew (G fr cs) ws).setIfInBounds 0 (G (fr.finish undef) cs)).push (G (baseOf P [A]) [])=crew (G (fr.finish undef) cs) (ws++[ch]):=by
  rw[Ke];simp[crew,ch]
 rw[u];obtain⟨d0,dn,Y⟩:=I.free0;have X:stg ch.2=7:=rfl;have s:∀ (i:Nat) x,(ws++[ch])[i]?=some x->(i<ws.length/\ws[i]?=some x)\/(i=ws.length/\x=ch):=by
  intro i x d;rcases Nat.lt_or_ge i ws.length with l|M
  ·rw[List.getElem?_append_left l]at d;exact .inl ⟨l,d⟩
  ·rw[List.getElem?_append_right M]at d;cases D:i-ws.length with
   | zero=>rw[D]at d;simp at d;exact .inr ⟨by omega,d.symm⟩
   | succ n=>rw[D]at d;simp at d
 have hm:=I.mem.spawn (hc:=hc) (c0:=keepC F h.get C c1 e) F O (fun r hr=>by unfold keepC;rw[if_neg hr];rfl) hC L (by unfold keepC;rw[if_pos rfl]) s1 s2 k1 k2
   (x:={ g:=0,fn:=(G fr cs).frame.fn,pos:=(G fr cs).frame.place,act:=.go (ws.length+1) }) (y:={ g:=ws.length+1,fn:=(G (baseOf P [A]) []).frame.fn,pos:=(G fr cs).frame.place,act:=.start })
   ⟨rfl,rfl⟩ ⟨rfl,rfl⟩ (gone':=goneW (ws++[ch])) (by
    intro i B;cases i with
    | zero=>exact B.elim
    | succ i =>
     obtain⟨x,d,h0⟩:=B;rcases s i x d with⟨_,d⟩|⟨_,rfl⟩
     ·exact⟨x,d,h0⟩
     ·cases h0)
   (fun i B=>by
    cases i with
    | zero=>exact B
    | succ i =>
     obtain⟨x,d,h0⟩:=B;have l:i<ws.length:=(List.getElem?_eq_some_iff.1 d).1;exact⟨x,by rw[List.getElem?_append_left l];exact d,h0⟩) (fun h=>h) (by
    rintro⟨x,d,_⟩;rw[List.getElem?_eq_none (Nat.le_refl _)]at d;cases d) d0 dn I.wg.2.2
 have o:(fun i=>if i=ws.length+1 then hc else if i=0 then keepC F h.get C c1 e else cellsOf h ws i)=cellsOf h' (ws++[ch]):=by
  funext i;cases i with
  | zero=>simp[cellsOf,N]
  | succ i =>
   rcases Nat.lt_trichotomy i ws.length with l|rfl|z
   ·simp[cellsOf,Nat.ne_of_lt l,List.getElem?_append_left l]
   ·simp[cellsOf,ch]
   ·have h1:ws[i]?=none:=List.getElem?_eq_none (Nat.le_of_lt z);have h2:(ws++[ch])[i]?=none:=List.getElem?_eq_none (by simp;exact z);simp[cellsOf,Nat.ne_of_gt z,h1,h2]
 rw[o]at hm;have q:∀ op∈(#[]:Trace).push { g:=0,fn:=(G fr cs).frame.fn,pos:=(G fr cs).frame.place,act:=.go (ws.length+1) } |>.push { g:=ws.length+1,fn:=(G (baseOf P [A]) []).frame.fn,pos:=(G fr cs).frame.place,act:=.start },(∀ m,op.act≠.mark m)/\op.act.touch?=none:=by
  intro op f;rcases Array.mem_push.1 f with f|rfl
  ·rcases Array.mem_push.1 f with f|rfl
   ·simp at f
   ·exact⟨nofun,rfl⟩
  ·exact⟨nofun,rfl⟩
 obtain⟨nC,Q,q3⟩:=I.outC;refine K (k+1) (sy.grant (ws.length+1) Wg) _ w sl _ ⟨?_,⟨I.wg.1,I.wg.2.1,.inl I.wg.2.2⟩,?_,?_,?_,?_,?_,?_,?_,?_,nC,Q,G0 q3 fun op f x d=>?_⟩
 ·rw[List.length_append];exact hm
 ·intro x d;rcases List.mem_append.1 d with d|d
  ·exact I.st x d
  ·simp at d;subst d;exact .work (by simp[ch]) (by simp[ch]) rfl hw
 ·intro i x d;rw[Ha fun op f=>(q op f).1];rcases s i x d with⟨l,U⟩|⟨rfl,rfl⟩
  ·obtain⟨Z,V⟩:=I.tr i x U;refine⟨Z,fun E=>⟨.inl (V E).1,fun J=>?_⟩⟩;have H:ownC (cellsOf h' (ws++[ch])) C (i+1)=ownC (cellsOf h ws) C (i+1):=by
    rw[<- o];funext k;unfold ownC holdsP;simp only[show ¬ (i+1=ws.length+1) by omega,show ¬ (i+1=0) by omega,if_false]
   rw[H];exact((V E).2 J).mute fun op f=>(q op f).2
  ·exact⟨Y,fun _=>⟨.inr ⟨rfl,rfl⟩,fun J=>absurd J (by simp[ch])⟩⟩
 ·rw[pending_append];exact I.pend.append_right _
 ·rw[List.length_append];exact R
 ·rw[Ha fun op f=>(q op f).1];exact I.deaf0
 ·obtain⟨st,sm,h1,h2⟩:=I.mode;cases h2 with
  | opn a b c' =>
   refine⟨_,0,h1,?_⟩;have W:Vw (ws++[ch])=Vw ws+1:=by rw[Vw_append];rfl
   have:=Mode.opn (ws:=ws++[ch]) (k:=k+1) (p:=0) (fun x d=>by
    rcases List.mem_append.1 d with d|d
    ·exact a x d
    ·simp at d;subst d;exact .inr (.inr (.inr (.inr rfl)))) (by rw[W];omega) (by omega)
   rw[W]at this;have H:(((Vw ws+1:Nat):Int)+((0:Nat):Int))*KK=((Vw ws:Int)+((1:Nat):Int))*KK:=by simp
   rw[H]at this;exact this
 ·intro x d h0;rcases List.mem_append.1 d with d|d
  ·exact I.oldC x d h0
  ·simp at d;subst d;cases h0
 ·exact I.spC
 ·rw[(q op f).2]at d;cases d
theorem top_begin{g:Goroutine}(l:h.chans=[])(s:h.pend=[])(hCW:C≠Wg)(hC:h.get C=some (true,.cells c e (0,0)))(hc:∀ (i:Nat) (v:Value),c[i]?=some v->notHole v=true)(hW:h.get Wg=some (true,wgBlock ty 0 0)){h':LH}(m:h'.get=partedW h.get C Wg c e)
 (K:∀ k,TopW P n0 w0 Φ ty C Wg (.opn k 0) 0 [] g h'):Top P n0 w0 Φ g h:=by
 intro sy ws w sl t I;have h0:∀ x∈ws,x.2.todo=[]:=by
  intro x a;by_cases e:x.2.todo=[]
  ·exact e
  ·have:=I.pend.mem_iff.2 (Zp e a);rw[s]at this;cases this
 have hm:=I.mem.toW l hCW (C:=C) (Wg:=Wg) (c:=c) (e:=e) hC hc hW;have d:(fun i=>if i=0 then partedW (cellsOf h ws 0) C Wg c e else cellsOf h ws i)=cellsOf h' ws:=by
  funext i;cases i with
  | zero=>simp[cellsOf,m]
  | succ i=>simp[cellsOf]
 rw[d]at hm;have f:∀ x∈ws,stg x.2=0:=fun x a=>by unfold stg;rw[h0 x a]
 have y:Vw ws=0:=Vw_zero fun x a=>by rw[f x a];omega
 obtain⟨F,f1,f2⟩:=I.mem.fits 0 C _ _ hC;cases f2;obtain⟨G,f3,f4⟩:=I.mem.fits 0 Wg _ _ hW;cases f4;refine K 0 _ ws w sl t ⟨hm,⟨.inr rfl,I.mem.low 0 (Wg,none) (Q6 (j:=0) (r:=Wg) (x:=(true,wgBlock ty 0 0)) I.mem.free hW),.inr ⟨rfl,rfl⟩⟩,?_,?_,?_,by decide,?_,⟨_,_,f3,?_⟩,?_,(fun D=>D.elim (I.mem.ti.held 0 (C,none) true (Q6 (j:=0) (r:=C) (x:=(true,.cells c e (0,0))) I.mem.free hC)).2 hCW),c.size,⟨c,e,_,f1,rfl⟩,?_⟩
 ·intro x a;obtain⟨n,B⟩:=leaves_all I.wk h0 x a;exact .old (h0 x a) B
 ·intro i x a;exact⟨I.quit i x a,fun o=>absurd (h0 x (List.mem_of_getElem? a)) o⟩
 ·rw[<- s];exact I.pend
 ·rw[I.mem.ti.hears 0 (fun e=>e),I.mem.dp0]
 ·have:=Mode.opn (ws:=ws) (k:=0) (p:=0) (fun x a=>.inl (f x a)) (by omega) (by omega);rw[y]at this;have u:(((0:Nat):Int)+((0:Nat):Int))*KK=0:=by simp
  rw[u]at this;exact this
 ·intro x a _;obtain⟨i,z⟩:=List.getElem?_of_mem a;have:=I.mem.apart (i:=0) (j:=i+1) (by omega) hC;simpa[cellsOf,z] using this
 ·intro k p b A E;exact I.mem.ti.own 0 k (by
   obtain⟨r,q⟩:=k;have:=A.1;simp only at this;subst this;exact Q6 (j:=0) (r:=r) (x:=(true,.cells c e (0,0))) I.mem.free hC) p b E
end
end Go.TM
namespace Go.TM.WgW
section
open Go.ConcN Go.RowKit Go.Conc.Lib Go.ConcR.Gen Go.ConcN.Gen
open Go.ConcR (KK wgBlock WgAt stA smA rd wr mk DC0)
variable {L:WgLink}
variable {P:Program}{Wg:Nat}{cs:List Frame}
set_option maxHeartbeats 8000000 in
theorem waitStart(H:WgLib P L)(w:World)(a:WgLive L.tWg Wg w) :
  Idle P L.tWg Wg (AtMark P .disable (Idle P L.tWg Wg fun g _=>Anch L Wg cs g))
   (G ((base L.wait).at ⟨#[.pointer (some ⟨Wg,0,none⟩),undef,undef,undef,undef,undef,undef,undef,undef,undef,undef,undef,undef,undef,undef,undef,undef,undef,undef,undef,undef,undef,undef,undef,undef,undef,undef,undef,undef,undef,undef,undef,undef,undef,undef,undef,undef,undef,undef,undef,undef,undef,undef,undef,undef,undef,undef,undef,undef,undef,undef,undef,undef,undef,undef,undef,undef,undef,undef,undef,undef,undef,undef,undef,undef,undef,undef,undef,undef,undef,undef,undef,undef,undef,undef,undef,undef,undef,undef,undef,undef,undef,undef,undef],[]⟩ [.code (body_wait L)]) cs) w:=by
 lib_facts
 refine⟨500,?_⟩;simp only[body_wait,waitFn,Option.getD_some];u_c stepG_seq rm a;u_cond true rm a;u_reg rm a;refine Goes.stop (fun w1 h1=>?_);replace a:=rm a h1;clear h1;refine⟨rfl,_,stepG_mark0 .disable (by simp) rfl rfl (by k_ne) rfl H.f_disable (x_disable_n L) (x_disable_b L) (x_disable_x L) (x_disable_f L),3,?_⟩;walk_nrm;u_c stepG_region_end rm a;u_c stepG_block rm a;u_c stepG_loop rm a;exact Goes.stop (fun c b=>⟨_,rfl,by simp,by simp⟩)
set_option maxHeartbeats 8000000 in
theorem waitRound(H:WgLib P L)(g:Goroutine)(m:Anch L Wg cs g)(w:World)(a:WgLive L.tWg Wg w) :
  Idle P L.tWg Wg (AtLd P L.tWg Wg fun v g w=>(v=0->Idle P L.tWg Wg (AtJoin P L.tWg Wg cs L.wait) g w) /\
   (v≠0->Idle P L.tWg Wg (AtCas P L.tWg Wg v (AtReg P L.tWg Wg cs L.wait) (Idle P L.tWg Wg fun g _=>Anch L Wg cs g)) g w)) g w:=by
 lib_facts
 obtain⟨T,rfl,c,t0⟩:=m;obtain⟨v0,v1,v2,v3,v4,v5,v6,v7,v8,v9,v10,v11,r,s,t,u,x,y,z,A,v20,B,C,D,E,F,G,I,J,K,v30,M,N,O,Q,R,U,V,W,X,Y,Z,a0,e0,j0,k0,l0,m0,o0,q0,s0,u0,w0,x0,y0,z0,e1,g1,j1,l1,m1,o1,q1,r1,u1,x1,y1,z1,a2,e2,g2,j2,k2,l2,m2,o2,q2,r2,u2,x2,y2,z2,a3,b3,rfl⟩:=array84 T c;simp only[List.getElem?_toArray,List.getElem?_cons_zero,Option.some.injEq]at t0;subst t0;refine⟨500,?_⟩;simp only[L7,body_wait,waitFn,Option.getD_some];u_c stepG_block rm a;u_c stepG_seq rm a;u_reg rm a;u_op rm a;u_op rm a;u_op rm a;u_call H.f_uLoad (nm_uLoad L) uLoadFn rm a;u_c stepG_seq rm a;u_reg rm a;u_op rm a;u_c stepG_region_end rm a;u_c stepG_seq rm a;u_reg rm a;u_op rm a;u_op rm a;u_op rm a;refine Goes.stop (fun w1 h1=>?_);replace a:=rm a h1;clear h1;refine⟨rfl,fun v hv hw=>?_⟩;rcases Nat.eq_zero_or_pos v with rfl|p
 ·replace hw:WgAt L.tWg Wg w1 0 0:=by simpa using hw
  refine⟨_,stepG_load_atomic (v:=0) rfl rfl (by k_ne) rfl H.f_loadU64 (x_loadU64_n L) (x_loadU64_b L) (x_loadU64_x L) .u64 (x_loadU64_f L) rfl hw.cellSt,fun _=>⟨500,?_⟩,fun h=>absurd rfl h⟩;clear hw;walk_nrm;u_op rm a;u_c stepG_region_end rm a;u_c stepG_ret' rm a
  u_leave1 H.f_uLoad rm a
  u_op rm a;u_c stepG_region_end rm a;u_c stepG_seq rm a;u_reg rm a;u_op rm a;u_op rm a;u_op rm a;u_op rm a;u_c stepG_region_end rm a;u_c stepG_seq rm a;u_reg rm a;u_op rm a;u_op rm a;u_op rm a;u_op rm a;u_c stepG_region_end rm a;u_c stepG_seq rm a;u_c stepG_seq rm a;u_reg rm a;u_op rm a;u_op rm a;u_c stepG_region_end rm a;u_cond true rm a;u_c stepG_seq rm a;u_cond true rm a;u_c stepG_seq rm a;u_reg rm a;refine Goes.stop (fun w2 h2=>?_);replace a:=rm a h2;clear h2;refine⟨rfl,_,stepG_mark0 .enable (by simp) rfl rfl (by k_ne) rfl H.f_enable (x_enable_n L) (x_enable_b L) (x_enable_x L) (x_enable_f L),500,?_⟩;walk_nrm;u_c stepG_region_end rm a;u_reg rm a;u_op rm a;u_conv H.underlying_tWgP H.room_tWg (WgLive.cell0 a).choose_spec rm a;refine Goes.stop (fun w3 h3=>?_);replace a:=rm a h3;clear h3;refine⟨rfl,_,stepG_markAt .acquire (by simp) rfl rfl (by k_ne) rfl H.f_acquire (x_acquire_n L) (x_acquire_b L) (x_acquire_x L) (x_acquire_f L) (by simp[Act.eval,stA]),500,?_⟩;walk_nrm;u_c stepG_region_end rm a;u_c stepG_seq rm a;u_c stepG_seq rm a;u_reg rm a;u_op rm a;u_op rm a;u_op rm a;u_op rm a;u_op rm a;u_op rm a;u_op rm a;u_op rm a;u_skip rm a;u_skip rm a;u_op rm a;u_c stepG_region_end rm a;u_cond false rm a;u_c stepG_skip rm a;u_c stepG_ret' rm a;exact Goes.stop (fun _ _=>⟨_,rfl,rfl,rfl,rfl,rfl⟩)

 ·obtain⟨S,b⟩ : ∃ S:Int,(v:Int)*KK=S:=⟨_,rfl⟩
  have a1:S / 4294967296=(v:Int):=by rw[<- b];simp only[KK];omega
  have b1:bits .and .u64 S 2147483648=0:=by rw[<- b];have:=st_flag v 0 (by omega) (by omega);simpa[KK] using this
  have b2:bits .and .u64 S 2147483647=0:=by rw[<- b];have:=st_waiters v 0 (by omega) (by omega);simpa[KK] using this
  have c1:IntKind.i32.wrap (v:Int)=(v:Int):=by rw[IntKind.wrap_i32];omega
  have e3:IntKind.u64.wrap (S+1)=S+1:=by rw[IntKind.wrap_u64,<- b];simp only[KK];omega
  have q3:decide ((v:Int)<0)=false:=decide_eq_false (by omega);have q4:decide (0<(v:Int))=true:=decide_eq_true (by omega);have q5:((v:Int)==0)=false:=by simp;omega
  have q6:decide ((v:Int)=0)=false:=decide_eq_false (by omega);rw[b]at hw;refine⟨_,stepG_load_atomic (v:=S) rfl rfl (by k_ne) rfl H.f_loadU64 (x_loadU64_n L) (x_loadU64_b L) (x_loadU64_x L) .u64 (x_loadU64_f L) rfl hw.cellSt,fun h0=>absurd h0 (by omega),fun _=>⟨500,?_⟩⟩;clear hw;walk_nrm;u_op rm a;u_c stepG_region_end rm a;u_c stepG_ret' rm a
  u_leave1 H.f_uLoad rm a
  u_op rm a;u_c stepG_region_end rm a;u_c stepG_seq rm a;u_reg rm a;u_op rm a;u_op rm a;u_op rm a;u_op rm a;u_c stepG_region_end rm a;u_c stepG_seq rm a;u_reg rm a;u_op rm a;u_op rm a;u_op rm a;u_op rm a;u_c stepG_region_end rm a;u_c stepG_seq rm a;u_c stepG_seq rm a;u_reg rm a;u_op rm a;u_op rm a;u_c stepG_region_end rm a
  u_cnd false rm a
  u_c stepG_skip rm a;u_c stepG_seq rm a;u_reg rm a;u_op rm a;u_op rm a;u_op rm a;u_op rm a;u_op rm a;u_op rm a;u_call H.f_uCas (nm_uCas L) uCasFn rm a;u_c stepG_seq rm a;u_reg rm a;u_op rm a;u_c stepG_region_end rm a;u_c stepG_seq rm a;u_reg rm a;u_op rm a;u_op rm a;u_op rm a;u_op rm a;u_op rm a;refine Goes.stop (fun w2 h2=>?_);replace a:=rm a h2;clear h2;refine⟨rfl,fun q o hw=>⟨fun e=>?_,fun e=>?_⟩⟩
  ·subst e;rw[b]at hw ⊢;refine⟨_,(stepG_cas_hit (v:=S) (n:=S+1) rfl rfl (by k_ne) rfl H.f_casU64 (x_casU64_n L) (x_casU64_b L) (x_casU64_x L) .u64 (x_casU64_f L) rfl rfl rfl hw.cellSt (hw.thaw 0)).trans (by rfl),500,?_⟩;replace a:WgLive L.tWg Wg (w2.setCell (stA Wg) (.int .u64 (S+1))):=⟨_,_,hw.setSt _⟩
   clear hw;walk_nrm;u_op rm a;u_c stepG_region_end rm a;u_c stepG_ret' rm a
   u_leave1 H.f_uCas rm a
   u_c stepG_region_end rm a;u_cond true rm a;u_c stepG_seq rm a;u_c stepG_seq rm a;u_reg rm a;u_op rm a;u_op rm a;u_op rm a;u_op rm a;u_c stepG_region_end rm a;u_cond true rm a;u_reg rm a;u_op rm a;u_op rm a;u_op rm a;u_conv H.underlying_tPU32 H.room_tU32 (WgLive.cell1 a).choose_spec rm a;refine Goes.stop (fun w3 h3=>?_);replace a:=rm a h3;clear h3;refine⟨rfl,_,stepG_markAt .write (by simp) rfl rfl (by k_ne) rfl H.f_raceWrite (x_raceWrite_n L) (x_raceWrite_b L) (x_raceWrite_x L) (x_raceWrite_f L) (ad:=⟨Wg,1,none⟩) (by simp[Act.eval]),500,?_⟩;walk_nrm;u_c stepG_region_end rm a;u_c stepG_seq rm a;u_reg rm a;u_op rm a;u_c stepG_region_end rm a;u_c stepG_seq rm a;u_c stepG_seq rm a;u_reg rm a;u_op rm a;u_op rm a;u_op rm a;u_op rm a;u_skip rm a;u_op rm a;u_c stepG_region_end rm a;u_cond false rm a;u_c stepG_skip rm a;u_c stepG_seq rm a;u_reg rm a;u_op rm a;u_op rm a;u_op rm a;u_op rm a;refine Goes.stop (fun w4 f=>?_);replace a:=rm a f;clear f;refine⟨rfl,rfl,fun ⟨st,hw⟩=>stepG_semacquire_wait rfl rfl rfl H.f_semacquire (x_semacquire_n L) (x_semacquire_b L) (x_semacquire_x L) (x_semacquire_f L) (by simp[Act.eval,smA]) hw.cellSm,fun d=>?_⟩;refine⟨_,(stepG_semacquire (n:=1) rfl rfl (by k_ne) rfl H.f_semacquire (x_semacquire_n L) (x_semacquire_b L) (x_semacquire_x L) (x_semacquire_f L) (by simp[Act.eval,smA]) d.cellSm (by k_ne) (d.thaw 1)).trans (by rfl),500,?_⟩;replace a:WgLive L.tWg Wg (w4.setCell (smA Wg) (.int .u32 0)):=⟨_,_,d.setSm 0⟩
   clear d;walk_nrm;u_c stepG_region_end rm a;u_c stepG_seq rm a;u_reg rm a;u_op rm a;u_op rm a;u_op rm a;u_call H.f_uLoad (nm_uLoad L) uLoadFn rm a;u_c stepG_seq rm a;u_reg rm a;u_op rm a;u_c stepG_region_end rm a;u_c stepG_seq rm a;u_reg rm a;u_op rm a;u_op rm a;u_op rm a;refine Goes.stop (fun w5 h5=>?_);replace a:=rm a h5;clear h5;refine⟨rfl,fun hw=>⟨_,stepG_load_atomic (v:=0) rfl rfl (by k_ne) rfl H.f_loadU64 (x_loadU64_n L) (x_loadU64_b L) (x_loadU64_x L) .u64 (x_loadU64_f L) rfl hw.cellSt,500,?_⟩⟩;clear hw;walk_nrm;u_op rm a;u_c stepG_region_end rm a;u_c stepG_ret' rm a
   u_leave1 H.f_uLoad rm a
   u_op rm a;u_op rm a;u_c stepG_region_end rm a;u_c stepG_seq rm a;u_cond true rm a;u_c stepG_seq rm a;u_reg rm a;refine Goes.stop (fun w6 i=>?_);replace a:=rm a i;clear i;refine⟨rfl,_,stepG_mark0 .enable (by simp) rfl rfl (by k_ne) rfl H.f_enable (x_enable_n L) (x_enable_b L) (x_enable_x L) (x_enable_f L),500,?_⟩;walk_nrm;u_c stepG_region_end rm a;u_reg rm a;u_op rm a;u_conv H.underlying_tWgP H.room_tWg (WgLive.cell0 a).choose_spec rm a;refine Goes.stop (fun w7 j=>?_);replace a:=rm a j;clear j;refine⟨rfl,_,stepG_markAt .acquire (by simp) rfl rfl (by k_ne) rfl H.f_acquire (x_acquire_n L) (x_acquire_b L) (x_acquire_x L) (x_acquire_f L) (by simp[Act.eval,stA]),500,?_⟩;walk_nrm;u_c stepG_region_end rm a;u_c stepG_seq rm a;u_c stepG_seq rm a;u_reg rm a;u_op rm a;u_c stepG_region_end rm a;u_cond false rm a;u_c stepG_skip rm a;u_c stepG_ret' rm a;exact Goes.stop (fun _ _=>⟨_,rfl,rfl,rfl,rfl,rfl⟩)
  ·refine⟨_,stepG_cas_miss (v:=(q:Int)*KK) (old:=S) (n:=S+1) rfl rfl (by k_ne) rfl H.f_casU64 (x_casU64_n L) (x_casU64_b L) (x_casU64_x L) .u64 (x_casU64_f L) rfl rfl rfl hw.cellSt (hw.thaw 0) (by rw[<- b];simp only[KK];omega),500,?_⟩;clear hw;walk_nrm;u_op rm a;u_c stepG_region_end rm a;u_c stepG_ret' rm a
   u_leave1 H.f_uCas rm a
   u_c stepG_region_end rm a;u_cond false rm a;u_c stepG_skip rm a;u_c stepG_inBlock rm a;u_c stepG_inLoop rm a;exact Goes.stop (fun l k=>⟨_,rfl,by simp,by simp⟩)
end
section
open Go.ConcN Go.RowKit Go.Conc.Lib Go.ConcR.Gen Go.ConcN.Gen
open Go.ConcR (KK wgBlock WgAt stA smA rd wr mk DC0)
variable {L:WgLink}
set_option maxHeartbeats 8000000 in
theorem addW{P:Program}(H:WgLib P L){Wg:Nat}{cs:List Frame}(w:World)(a:WgLive L.tWg Wg w) :
  Idle P L.tWg Wg (AtMark P .disable (Idle P L.tWg Wg (AtAdd1 P L.tWg Wg fun v g w =>
   (v=1->Idle P L.tWg Wg (AtMark P (.read (smA Wg)) (Idle P L.tWg Wg (AtEn P L.tWg Wg cs L.add))) g w) /\
   (v≠1->Idle P L.tWg Wg (AtEn P L.tWg Wg cs L.add) g w))))
   (G ((base L.add).at ⟨#[.pointer (some ⟨Wg,0,none⟩),.int .i64 1,undef,undef,undef,undef,undef,undef,undef,undef,undef,undef,undef,undef,undef,undef,undef,undef,undef,undef,undef,undef,undef,undef,undef,undef,undef,undef,undef,undef,undef,undef,undef,undef,undef,undef,undef,undef,undef,undef,undef,undef,undef,undef,undef,undef,undef,undef,undef,undef,undef,undef,undef,undef,undef,undef,undef,undef,undef,undef,undef,undef,undef,undef,undef,undef,undef,undef,undef,undef,undef,undef,undef,undef,undef,undef,undef,undef,undef,undef,undef,undef,undef,undef,undef,undef,undef,undef,undef,undef,undef,undef,undef,undef,undef,undef,undef,undef,undef,undef,undef,undef,undef,undef,undef,undef,undef,undef,undef,undef,undef,undef,undef,undef,undef,undef,undef],[]⟩ [.code (body_add L)]) cs) w:=by
 lib_facts
 refine⟨500,?_⟩;simp only[body_add,addFn,Option.getD_some];u_c stepG_seq rm a;u_cond true rm a;u_c stepG_seq rm a;u_c stepG_seq rm a;u_reg rm a;u_op rm a;u_op rm a;u_c stepG_region_end rm a;u_cond false rm a;u_c stepG_skip rm a;u_c stepG_seq rm a;u_reg rm a;refine Goes.stop (fun l h₁=>?_);replace a:=rm a h₁;clear h₁;refine⟨rfl,_,stepG_mark0 .disable (by simp) rfl rfl (by k_ne) rfl H.f_disable (x_disable_n L) (x_disable_b L) (x_disable_x L) (x_disable_f L),500,?_⟩;walk_nrm;u_c stepG_region_end rm a;u_reg rm a
 u_defer rm a
 u_c stepG_region_end rm a;u_c stepG_seq rm a;u_reg rm a;u_op rm a;u_c stepG_region_end rm a;u_c stepG_seq rm a;u_c stepG_seq rm a;u_reg rm a
 u_bub rm a
 u_c stepG_region_end rm a;u_cond false rm a;u_c stepG_skip rm a;u_c stepG_seq rm a;u_reg rm a;u_op rm a;u_op rm a;u_op rm a;u_op rm a;u_op rm a;u_op rm a;u_call H.f_uAdd (nm_uAdd L) uAddFn rm a;u_c stepG_seq rm a;u_reg rm a;u_op rm a;u_c stepG_region_end rm a;u_c stepG_seq rm a;u_reg rm a;u_op rm a;u_op rm a;u_op rm a;u_op rm a;refine Goes.stop (fun c d=>?_);replace a:=rm a d;clear d;refine⟨rfl,fun v hv hw=>?_⟩;rcases Nat.eq_zero_or_pos v with rfl|q
 ·replace hw:WgAt L.tWg Wg c 0 0:=by simpa using hw
  have z:(((0:Nat):Int)+1)*KK=KK:=by simp
  rw[z];have n:IntKind.u64.wrap (0+4294967296)=KK:=by decide
  refine⟨_,(stepG_add_atomic rfl rfl (by k_ne) rfl H.f_addU64 (x_addU64_n L) (x_addU64_b L) (x_addU64_x L) .u64 (x_addU64_f L) rfl rfl hw.cellSt (hw.thaw 0)).trans (by rw[n];rfl),fun _=>⟨500,?_⟩,fun h=>absurd rfl h⟩;replace a:WgLive L.tWg Wg (c.setCell (stA Wg) (.int .u64 KK)):=⟨_,_,hw.setSt _⟩
  clear hw;simp only[KK]at a ⊢;walk_nrm;u_op rm a;u_c stepG_region_end rm a;u_c stepG_ret' rm a
  u_leave1 H.f_uAdd rm a
  u_op rm a;u_c stepG_region_end rm a;u_c stepG_seq rm a;u_c stepG_seq rm a;u_reg rm a;u_op rm a;u_op rm a;u_op rm a;u_op rm a;u_skip rm a;u_skip rm a;u_op rm a;u_c stepG_region_end rm a;u_cond false rm a;u_c stepG_skip rm a;u_c stepG_seq rm a;u_reg rm a;u_op rm a;u_op rm a;u_op rm a;u_op rm a;u_c stepG_region_end rm a;u_c stepG_seq rm a;u_reg rm a;u_op rm a;u_op rm a;u_op rm a;u_op rm a;u_c stepG_region_end rm a;u_c stepG_seq rm a;u_c stepG_seq rm a;u_reg rm a;u_op rm a;u_op rm a;u_op rm a;u_op rm a;u_op rm a;u_op rm a;u_op rm a;u_op rm a;u_op rm a;u_op rm a;u_c stepG_region_end rm a;u_cond true rm a;u_reg rm a;u_op rm a;u_op rm a;u_op rm a;u_conv H.underlying_tPU32 H.room_tU32 (WgLive.cell1 a).choose_spec rm a;refine Goes.stop (fun m e=>?_);replace a:=rm a e;clear e;refine⟨rfl,_,stepG_markAt .read (by simp) rfl rfl (by k_ne) rfl H.f_raceRead (x_raceRead_n L) (x_raceRead_b L) (x_raceRead_x L) (x_raceRead_f L) (ad:=⟨Wg,1,none⟩) (by simp[Act.eval]),500,?_⟩;walk_nrm;u_c stepG_region_end rm a;u_c stepG_seq rm a;u_c stepG_seq rm a;u_reg rm a;u_op rm a;u_op rm a;u_c stepG_region_end rm a;u_cond false rm a;u_c stepG_skip rm a;u_c stepG_seq rm a;u_c stepG_seq rm a;u_reg rm a;u_op rm a;u_op rm a;u_op rm a;u_skip rm a;u_skip rm a;u_op rm a;u_op rm a;u_skip rm a;u_skip rm a;u_skip rm a;u_skip rm a;u_op rm a;u_c stepG_region_end rm a;u_cond false rm a;u_c stepG_skip rm a;u_c stepG_seq rm a;u_c stepG_seq rm a;u_reg rm a;u_op rm a;u_op rm a;u_op rm a;u_skip rm a;u_skip rm a;u_op rm a;u_c stepG_region_end rm a;u_cond true rm a;u_c stepG_ret' rm a;refine Goes.stop (fun j b=>?_);replace a:=rm a b;clear b;refine⟨rfl,_,stepG_unwind_entry (v:=.tuple #[]) (evs:=#[mk .enable]) rfl H.f_enable (x_enable_n L) (x_enable_b L) (x_enable_x L) (x_enable_f L) (by simp[Extern.Race.none_]) (by simp[mk]) (by simp[mk]),2,?_⟩;exact Goes.stop fun _ _=>⟨_,rfl,rfl,rfl,rfl,rfl⟩
 ·obtain⟨V,i⟩ : ∃ V:Int,V=(v:Int)+1:=⟨_,rfl⟩
  obtain⟨S,f⟩ : ∃ S:Int,S=V*KK:=⟨_,rfl⟩
  have k:IntKind.u64.wrap ((v:Int)*KK+4294967296)=S:=by rw[IntKind.wrap_u64,f,i];simp only[KK];omega
  rw[<- i,<- f];have r:S / 4294967296=V:=by rw[f];simp only[KK];omega
  have b1:bits .and .u64 S 2147483648=0:=by rw[f,i];have:=st_flag (v+1) 0 (by omega) (by omega);simpa[KK] using this
  have s:bits .and .u64 S 2147483647=0:=by rw[f,i];have:=st_waiters (v+1) 0 (by omega) (by omega);simpa[KK] using this
  have c1:IntKind.i32.wrap V=V:=by rw[IntKind.wrap_i32];omega
  have o:1<V:=by omega
  have p:V<2147483648:=by omega
  have t:(V==1)=false:=by simp;omega
  have u:decide (V=1)=false:=decide_eq_false (by omega);have x:decide (V<0)=false:=decide_eq_false (by omega);have y:decide (0<V)=true:=decide_eq_true (by omega);have A:(V==0)=false:=by simp;omega
  have B:decide (V=0)=false:=decide_eq_false (by omega);refine⟨_,(stepG_add_atomic rfl rfl (by k_ne) rfl H.f_addU64 (x_addU64_n L) (x_addU64_b L) (x_addU64_x L) .u64 (x_addU64_f L) rfl rfl hw.cellSt (hw.thaw 0)).trans (by rw[k];rfl),fun h=>absurd h (by omega),fun _=>⟨500,?_⟩⟩;replace a:WgLive L.tWg Wg (c.setCell (stA Wg) (.int .u64 S)):=⟨_,_,hw.setSt _⟩
  clear hw f i k;walk_nrm;u_op rm a;u_c stepG_region_end rm a;u_c stepG_ret' rm a
  u_leave1 H.f_uAdd rm a
  u_op rm a;u_c stepG_region_end rm a;u_c stepG_seq rm a;u_c stepG_seq rm a;u_reg rm a;u_op rm a;u_op rm a;u_op rm a;u_op rm a;u_skip rm a;u_skip rm a;u_op rm a;u_c stepG_region_end rm a
  u_cnd false rm a
  u_c stepG_skip rm a;u_c stepG_seq rm a;u_reg rm a;u_op rm a;u_op rm a;u_op rm a;u_op rm a;u_c stepG_region_end rm a;u_c stepG_seq rm a;u_reg rm a;u_op rm a;u_op rm a;u_op rm a;u_op rm a;u_c stepG_region_end rm a;u_c stepG_seq rm a;u_c stepG_seq rm a;u_reg rm a;u_op rm a;u_op rm a;u_op rm a;u_op rm a;u_op rm a;u_op rm a;u_op rm a;u_op rm a;u_op rm a;u_op rm a;u_c stepG_region_end rm a
  u_cnd false rm a
  u_c stepG_skip rm a;u_c stepG_seq rm a;u_c stepG_seq rm a;u_reg rm a;u_op rm a;u_op rm a;u_c stepG_region_end rm a
  u_cnd false rm a
  u_c stepG_skip rm a;u_c stepG_seq rm a;u_c stepG_seq rm a;u_reg rm a;u_op rm a;u_op rm a;u_op rm a;u_skip rm a;u_skip rm a;u_op rm a;u_op rm a;u_skip rm a;u_skip rm a;u_skip rm a;u_skip rm a;u_op rm a;u_c stepG_region_end rm a
  u_cnd false rm a
  u_c stepG_skip rm a;u_c stepG_seq rm a;u_c stepG_seq rm a;u_reg rm a;u_op rm a;u_op rm a;u_op rm a;u_skip rm a;u_skip rm a;u_op rm a;u_c stepG_region_end rm a
  u_cnd true rm a
  u_c stepG_ret' rm a;refine Goes.stop (fun j b=>?_);replace a:=rm a b;clear b;refine⟨rfl,_,stepG_unwind_entry (v:=.tuple #[]) (evs:=#[mk .enable]) rfl H.f_enable (x_enable_n L) (x_enable_b L) (x_enable_x L) (x_enable_f L) (by simp[Extern.Race.none_]) (by simp[mk]) (by simp[mk]),2,?_⟩;exact Goes.stop fun _ _=>⟨_,rfl,rfl,rfl,rfl,rfl⟩
end
end Go.TM.WgW
namespace Go.TM
section
open Go.ConcR (KK wgBlock WgAt stA smA rd wr)
open Go.ConcN (WgLive)
open Go.Conc.Lib Go.RowKit
open WgW
variable {P:Program} {Φ:Value->World->Prop} {ty:TypeId} {C Wg:Nat} {md md':MT} {d d':Nat} {sy:Sy} {n0:Nat} {w0:World} {ps:List Script} {h:LH} {ws:Crew} {w:World} {t:Trace} {sl:Option (Nat×Nat)}
variable {g:Goroutine}{c:Array Value}{e:TypeId}
theorem TI.redp{n ng:Nat}{hold:Nat->Key->Option Bool}{gone:Nat->Prop}(h:TI sy t n ng hold gone)(b:∀ g,¬ gone g->sy.dp g=0):TI ⟨sy.sp,sy.use,fun _=>0⟩ t n ng hold gone :=
 ⟨fun g a=>by rw[h.hears g a];exact b g a,h.who,h.spl,h.lt,h.held,h.excl,h.own,h.shared,h.norace,h.spc,h.said,h.acc,h.handed,h.norel⟩
theorem MemW.redp{cs:Nat->Cells}{ng:Nat}{gone:Nat->Prop}(m:MemW sy n0 w0 C cs ng gone w t)(a:∀ g,¬ gone g->sy.dp g=0):MemW ⟨sy.sp,sy.use,fun _=>0⟩ n0 w0 C cs ng gone w t :=
 ⟨m.fits,m.part,m.whole,m.ti.redp a,m.off,m.cl,m.out,m.pos,m.base,m.low,m.size,m.os,m.tape,m.output⟩
structure Joined(ps:List Script)(c c':Array Value):Prop where
 size:c'.size=c.size
 mine:∀ (i:Nat) (v:Value),c[i]?=some v->notHole v=true->c'[i]?=some v
 theirs:∀ i φ,[(i,φ)]∈ps->∃ v,c'[i]?=some v/\notHole v=true/\φ v noCells
def strip(C:Nat)(x:Goroutine×LH):Goroutine×LH:=(x.1,{ x.2 with get:=withoutC x.2.get C,todo:=[] })
theorem crew_strip(g:Goroutine):crew g (ws.map (strip C))=crew g ws:=by
 unfold crew;congr 2;rw[List.map_map];exact List.map_congr_left fun x _=>rfl
theorem pending_none:∀ {ws:Crew},(∀ x∈ws,x.2.todo=[])->pending ws=[]
 | [],_=>rfl
 | a::ws,h=>by
  show cons' a.2.todo (pending ws)=[];rw[h a List.mem_cons_self,pending_none fun x b=>h x (List.mem_cons_of_mem _ b)];rfl
theorem life1{s d:Nat}(l:Life P ty Wg s d g)(b:s=1):∃ n,QuitsD P n d g:=by
 cases l with
 | quit a=>exact⟨_,a⟩
 | _=>omega
theorem InvW.join(I:InvW P ty C Wg .fin 0 sy n0 w0 ps h ws w t){c:Array Value}{e:TypeId}(hC:h.get C=some (true,.pending c e))(S:∀ (i:Nat) (v:Value),c[i]?=some v->notHole v=true\/∃ φ,[(i,φ)]∈ps)
 {op:MemOp}(V:op.g=0/\op.act=.mark (.acquire (stA Wg))):∃ c',Joined ps c c'/\∃ y0,Inv P y0 n0 w0 { get:=h.get.upd C (true,.cells c' e (0,0)),chans:=[],pend:=[],todo:=h.todo } (ws.map (strip C)) w (t++#[op]):=by
 classical
 obtain⟨o1,f1,A,rfl,f2,f3⟩:=I.mem.fits 0 C _ _ hC;have quiet:Quiet ws:=by
  obtain⟨_,_,_,m⟩:=I.mode;cases m with
  | fin a=>exact a
 -- who has e1
 have worker:∀ (j:Nat) x,ws[j]?=some x->x.2.todo≠[]->∃ i φ u H v n,x.2.todo=[(i,φ)]/\x.2.get C=some (true,.pending u H)/\u[i]?=some v/\A[i]?=some v/\notHole v=true/\φ v noCells/\QuitsD P n x.2.dp x.1/\x.2.pend.length<=6:=by
  intro j x d f;have W:=I.st x (List.mem_of_getElem? d);have hq:=quiet x (List.mem_of_getElem? d);rw[Yj f]at hq;cases W with
  | old h0 _=>exact absurd h0 f
  | work _ h7 _ _=>omega
  | lib hk h1 h7 l =>
   obtain⟨i,φ,u,H,v,L,O,Q,X,Y⟩:=hk.kept;obtain⟨o2,b1,c2,b2,b3,b4⟩:=I.mem.fits (j+1) C true _ (show cellsOf h ws (j+1) C=some (true,.pending u H) by simp[cellsOf,d,O]);rw[f1]at b1;cases b1;cases b2;have q0:x.2.pend.length=1:=by omega
   obtain⟨n,K⟩:=life1 l q0;exact⟨i,φ,u,_,v,n,L,O,Q,b4 i v Q X,X,Y,K,by omega⟩
 have F:∀ i φ,[(i,φ)]∈ps->∃ (j:Nat) (x:Goroutine×LH),ws[j]?=some x/\x.2.todo=[(i,φ)]:=by
  intro i φ hm;obtain⟨_,x,d,u0⟩:=mem_pending (I.pend.mem_iff.1 hm);obtain⟨j,s⟩:=List.getElem?_of_mem d;exact⟨j,x,s,u0⟩
 have theirs:∀ i φ,[(i,φ)]∈ps->∃ v,A[i]?=some v/\notHole v=true/\φ v noCells/\∃ j u H,cellsOf h ws (j+1) C=some (true,.pending u H)/\u[i]?=some v/\∃ x,ws[j]?=some x/\x.2.todo≠[]:=by
  intro i φ hm;obtain⟨j,x,s,d⟩:=F i φ hm;obtain⟨i',φ',u,H,v,n,L,O,Q,X,Y,a6,_⟩:=worker j x s (by rw[d];simp);rw[d]at L;cases L;exact⟨v,X,Y,a6,j,u,H,by simp[cellsOf,s,O],Q,x,s,by rw[d];simp⟩
 let D:Nat->Prop:=fun k=>∃ j x,k=j+1/\ws[j]?=some x/\x.2.todo≠[];have hD:∀ i,D i->i≠0/\i<ws.length+1/\∃ p,Done t i (stA Wg) (ownC (cellsOf h ws) C i) p:=by
  rintro i ⟨j,x,rfl,s,f⟩;obtain⟨_,_,_,_,_,_,_,_,_,_,_,_,_,h6⟩:=worker j x s f;exact⟨by omega,Nat.succ_lt_succ (List.getElem?_eq_some_iff.1 s).1,(((I.tr j x s).2 f).2 h6).done⟩
 have J:∀ (i:Nat) (v:Value),A[i]?=some v->notHole v=true/\(c[i]?=some v\/∃ j b u H,D j/\cellsOf h ws j C=some (b,.pending u H)/\u[i]?=some v):=by
  intro i v hv;have E:i<c.size:=by rw[<- f2];exact(Array.getElem?_eq_some_iff.1 hv).1
  have R:c[i]?=some c[i]:=Array.getElem?_eq_getElem E;rcases S i _ R with K|⟨φ,hm⟩
  ·have:=f3 i _ R K;rw[hv]at this;cases this;exact⟨K,.inl R⟩
  ·obtain⟨v',L,O,_,j,u,H,Q,X,x,Y,a6⟩:=theirs i φ hm;rw[hv]at L;cases L;exact⟨O,.inr ⟨j+1,true,u,H,⟨j,x,rfl,Y,a6⟩,Q,X⟩⟩
 have d0:Deaf t 0=0:=I.deaf0;have hm:=I.mem.join (a:=stA Wg) (D:=D) hD (fun e=>e) d0 V hC (cm:=A) f2 (fun i v hv _=>(J i v hv).2) (gone':=fun g=>goneW ws g\/D g) (fun _=>Iff.rfl);have o0:∀ g,¬ (goneW ws g\/D g)->g=0\/ws.length<g:=by
  intro g hg;cases g with
  | zero=>exact .inl rfl
  | succ g =>
   right;rcases Nat.lt_or_ge g ws.length with E|g1
   ·exfalso;apply hg;by_cases M:ws[g].2.todo=[]
    ·exact .inl ⟨ws[g],List.getElem?_eq_getElem E,M⟩
    ·exact .inr ⟨g,ws[g],rfl,List.getElem?_eq_getElem E,M⟩
   ·omega
 have k0:=hm.redp (fun g hg=>by
  rcases o0 g hg with rfl|E
  ·have:=I.mem.ti.hears 0 (fun e=>e);rw[<- this];exact d0
  ·have K:¬ goneW ws g:=fun e=>hg (.inl e);rw[<- I.mem.ti.hears g K];exact Deaf_none fun x0 l0 e=>by have:=I.mem.ti.who x0 l0;omega)
 have a0:joined (cellsOf h ws) C D A e 0 C=some (true,.pending A e):=by rw[Gn,Qd]
 have s0:∀ j,j≠0->joined (cellsOf h ws) C D A e j C=none:=by
  intro j s;by_cases B:D j
  ·rw[joinedD s B];unfold withoutC;rw[if_pos rfl]
  ·rw[joinedN s B];cases j with
   | zero=>exact absurd rfl s
   | succ j =>
    cases d:ws[j]? with
    | none=>simp[cellsOf,d]
    | some x =>
     have h0:x.2.todo=[]:=by
      apply Classical.byContradiction;intro f;exact B ⟨j,x,rfl,d,f⟩
     simpa[cellsOf,d] using I.oldC x (List.mem_of_getElem? d) h0
 have z0:∀ o∈(#[op]:Trace),o.act.touch?=none:=by
  intro o ho;simp only[List.mem_toArray,List.mem_cons,List.not_mem_nil,or_false]at ho;rw[ho,V.2];rfl
 obtain⟨nC,⟨cC,eC,fC,q1,q2⟩,q3⟩:=I.outC;rw[f1]at q1;cases q1;have m0:∀ q p b,Touches (t++#[op]) p (C,q) b->Knows (t++#[op]) p 0:=by
  intro q p b ht;by_cases ho:outK C nC (C,q)
  ·exact(q3 _ p b ho (ht.untouched z0)).append
  ·have:∃ i,q=some i/\i<nC:=by
    apply Classical.byContradiction;intro K;refine ho ⟨rfl,fun i hi=>?_⟩;rcases Nat.lt_or_ge i nC with h1|h1
    ·exact absurd ⟨i,hi,h1⟩ K
    ·exact h1
   obtain⟨i,rfl,hi⟩:=this;have E:i<A.size:=by omega
   have hv:A[i]?=some A[i]:=Array.getElem?_eq_getElem E;exact k0.ti.own 0 (C,some i) (Jb (q:=some i) a0 (Kh (e:=e) hv (J i _ hv).1)) p b ht
 have j0:n0<=C:=I.mem.low 0 C _ hC;have hM:=k0.toMem (fun _=>rfl) a0 (fun i v hv=>(J i v hv).1) s0 j0 m0;have N:(fun i=>if i=0 then (joined (cellsOf h ws) C D A e 0).upd C (true,.cells A e (0,0)) else joined (cellsOf h ws) C D A e i)=cellsOf { get:=h.get.upd C (true,.cells A e (0,0)),chans:=[],pend:=[],todo:=h.todo } (ws.map (strip C)):=by
  funext i;cases i with
  | zero =>
   simp only[if_true,Gn,cellsOf];funext r;unfold Cells.upd;by_cases er:r=C<;>simp[er,cellsOf]
  | succ i =>
   simp only[show ¬ (i+1=0) by omega,if_false,cellsOf,List.getElem?_map];cases d:ws[i]? with
   | none =>
    have:¬ D (i+1):=by
     rintro⟨j,x,Z,s,_⟩;cases Z;rw[d]at s;cases s
    rw[joinedN (by omega) this];simp[cellsOf,d]
   | some x =>
    simp only[Option.map_some,strip];by_cases B:D (i+1)
    ·rw[joinedD (by omega) B];simp[cellsOf,d]
    ·rw[joinedN (by omega) B];have h0:x.2.todo=[]:=by
      apply Classical.byContradiction;intro f;exact B ⟨i,x,rfl,d,f⟩
     have K:=I.oldC x (List.mem_of_getElem? d) h0;funext r;unfold withoutC;by_cases er:r=C
     ·rw[if_pos er,er];simp[cellsOf,d,K]
     ·rw[if_neg er];simp[cellsOf,d]
 rw[N]at hM;have U:(fun g=>goneW ws g\/D g)=goneW (ws.map (strip C)):=by
  funext g;apply propext;cases g with
  | zero =>
   constructor
   ·rintro(h1|⟨j,x,Z,_⟩)
    ·exact h1
    ·cases Z
   ·intro h1;exact .inl h1
  | succ g =>
   constructor
   ·rintro(⟨x,d,_⟩|⟨j,x,Z,d,_⟩)
    ·exact⟨strip C x,by simp[d],rfl⟩
    ·cases Z;exact⟨strip C x,by simp[d],rfl⟩
   ·rintro⟨y,G,_⟩;rw[List.getElem?_map]at G;cases d:ws[g]? with
    | none=>rw[d]at G;cases G
    | some x =>
     by_cases M:x.2.todo=[]
     ·exact .inl ⟨x,d,M⟩
     ·exact .inr ⟨g,x,rfl,d,M⟩
 rw[U]at hM;refine⟨A,⟨f2,f3,fun i φ hm=>?_⟩,_,⟨by rw[List.length_map];exact hM,?_,?_,?_,?_⟩⟩
 ·obtain⟨v,L,O,Q,_⟩:=theirs i φ hm;exact⟨v,L,O,Q⟩
 ·intro x d;obtain⟨y,G,rfl⟩:=List.mem_map.1 d;have W:=I.st y G;obtain⟨j,s⟩:=List.getElem?_of_mem G;by_cases M:y.2.todo=[]
  ·cases W with
   | old _ hq=>exact .inl (.quit rfl hq)
   | work f _ _ _=>exact absurd M f
   | lib hk _ _ _=>exact absurd M hk.ne
  ·obtain⟨_,_,_,_,_,n,_,_,_,_,_,_,hq,_⟩:=worker j y s M;exact .inl (.quit rfl hq)
 ·intro x d y G;obtain⟨z,_,rfl⟩:=List.mem_map.1 d;cases G
 ·rw[pending_none];intro x d;obtain⟨z,_,rfl⟩:=List.mem_map.1 d;rfl
 ·intro i x d;rw[List.getElem?_map]at d;cases G:ws[i]? with
  | none=>rw[G]at d;cases d
  | some y =>
   rw[G]at d;cases d;rw[Deaf_push];unfold deafStep;rw[V.2];exact(I.tr i y G).1
def TopL(P:Program)(n0:Nat)(w0:World)(Φ:Value->World->Prop)(ty:TypeId)(Wg:Nat)(g:Goroutine)(h:LH):Prop :=
 ∀ sy ws w sl t,Inv P sy n0 w0 h ws w t->WgLive ty Wg w->EndsWell P Φ (crowd (crew g ws) w sl) t
theorem topL_idle(hp:h.pend=[]){Stop:Goroutine->World->Prop}(K:∀ g,(∃ w,WgLive ty Wg w/\Stop g w)->Top P n0 w0 Φ g h):∀ (m:Nat) (g:Goroutine) (w:World),WgLive ty Wg w->Goes P true (RM ty Wg) Go.ConcR.DC0 Stop m g w->TopL P n0 w0 Φ ty Wg g h:=by
 have stop:∀ g w,WgLive ty Wg w->(∀ k,RM ty Wg w k->Stop g k)->TopL P n0 w0 Φ ty Wg g h:=fun g w o f sy ws w' sl t I _=>K g ⟨w,o,f w fun _=>o⟩ sy ws w' sl t I;intro m
 induction m with
 | zero=>intro g w o f;exact stop g w o f
 | succ m L =>
  intro g w o f;rcases f with f|⟨A,f⟩
  ·exact stop g w o f
  intro sy ws w sl t u C;have q:∀ x Q w',OpenAt h w'->woken P x Q w' g=g:=fun x Q w' _=>by
   unfold woken;split
   ·exact again_running _ (.inl A)
   ·rfl
  have Y:=Sys.all ws u.wk
  induction Y generalizing w sl t with
  | mk ws K' hm hk ih =>
   obtain⟨i,gi,d,M,a,b,r⟩:=crowd_pick (P:=P) (gs:=crew g ws) (w:=w) (sl:=sl) (D4 (fun t e=>by rw[A]at e;cases e) u.wk) ⟨0,g,Jc g ws,A⟩;have I:=u.at d;have j:WgLive ty Wg (w.at d):=C;have h0:∀ x∈ws,x.2.todo=[]:=by
    intro x hx;by_cases e:x.2.todo=[]
    ·exact e
    ·have:=u.pend.mem_iff.2 (Zp e hx);rw[hp]at this;cases this
   cases i with
   | zero =>
    rw[Jc]at a;cases a;obtain⟨g',w',es,S,⟨U,V⟩,W⟩:=goes_elim (f (w.at d) fun _=>j);subst U V;refine EndsWell.next (r.trans (runT_crowd_go (Jc g ws) S)) ?_;have O:OpenAt h (w.at d):=I.mem.chan;rw[Hr I.wk I.scripts O (q _ _ _ O),Ke,Hk,Array.append_empty];exact L g' (w.at d) j W _ _ _ _ _ I j
   | succ i =>
    rw[Jo]at a;cases p:ws[i]? with
    | none=>rw[p]at a;cases a
    | some y =>
     rw[p]at a;cases a;obtain⟨gw,hw⟩:=y;have B:i<ws.length:=(List.getElem?_eq_some_iff.1 p).1;have l:=h0 _ (List.mem_of_getElem? p);simp only at b l;rcases hm i gw hw p with⟨fr,cs,N,_,E,_⟩|⟨fr,cs,c,z,v,φ,s,hv,hr,_,H,_⟩|⟨fr,cs,c,z,v,φ,s,hv,hr,_,H,_⟩|⟨_,Z⟩|⟨_,_,n,g',es,D,J,F,X⟩
     ·exact absurd l E
     ·rw[H.todo]at l;cases l
     ·rw[H.todo]at l;cases l
     ·rw[Z]at b;cases b
     ·obtain⟨ops,G,R⟩:=Hv (sl:=M) I q p l D J F;exact EndsWell.next (r.trans G) (ih i _ _ B X _ _ _ R j)
def LH.joined(h:LH)(C:Nat)(c':Array Value)(e:TypeId):LH:={ get:=h.get.upd C (true,.cells c' e (0,0)),chans:=[],pend:=[],todo:=h.todo }
theorem topW_acq{Next:Goroutine->World->Prop}(hC:h.get C=some (true,.pending c e))(a:∀ (i:Nat) (v:Value),c[i]?=some v->notHole v=true\/∃ φ,[(i,φ)]∈ps)(j:∀ w,WgLive ty Wg w->AtMark P (.acquire (stA Wg)) Next g w)(f:∃ w,WgLive ty Wg w)
 (K:∀ g' w d,WgLive ty Wg w->Next g' w->Joined ps c d->TopL P n0 w0 Φ ty Wg g' (h.joined C d e)):TopW P n0 w0 Φ ty C Wg .fin 0 ps g h:=by
 obtain⟨b,f⟩:=f;refine driveW (j b f).1 fun sy ws w sl t I=>?_;obtain⟨_,g',l,m⟩:=j w I.live;refine⟨_,_,Ul I.st l,?_⟩;have n:MemOp.ofEvents 0 g.frame.fn g.frame.place #[Go.ConcR.mk (.acquire (stA Wg))]=#[{ g:=0,fn:=g.frame.fn,pos:=g.frame.place,act:=.mark (.acquire (stA Wg)) }]:=by
  rw[ofEvents_eq];simp[Go.ConcR.ofEvent_mk]
 rw[n];obtain⟨d,o,p,k⟩:=I.join hC a (op:={ g:=0,fn:=g.frame.fn,pos:=g.frame.place,act:=.mark (.acquire (stA Wg)) }) ⟨rfl,rfl⟩;rw[<- crew_strip (C:=C)];exact K g' w d I.live m o _ _ _ _ _ k I.live
theorem topW_wait{L:WgLink}(H:WgLib P L){cs:List Frame}(hC:h.get C=some (true,.pending c e))(B:∀ (i:Nat) (v:Value),c[i]?=some v->notHole v=true\/∃ φ,[(i,φ)]∈ps)(E:∃ w,WgLive L.tWg Wg w)
 (K:∀ g J,RetOf L.wait cs g->Joined ps c J->Top P n0 w0 Φ g (h.joined C J e)){q:Goroutine}(D:∀ w,WgLive L.tWg Wg w->Idle P L.tWg Wg (AtMark P .disable (Idle P L.tWg Wg fun g _=>Anch L Wg cs g)) q w)(k:Nat) :
  TopW P n0 w0 Φ L.tWg C Wg (.opn k 0) 0 ps q h:=by
 obtain⟨f,d⟩:=E;have E:∃ w,WgLive L.tWg Wg w:=⟨f,d⟩
 have join:∀ g w,WgLive L.tWg Wg w->Idle P L.tWg Wg (AtJoin P L.tWg Wg cs L.wait) g w->TopW P n0 w0 Φ L.tWg C Wg .fin 1 ps g h:=by
  rintro g w hw ⟨m,A⟩;refine Jt (fun g l=>?_) m g w hw A;refine Wx (m:=.enable) (.inr (.inl rfl)) rfl l E fun g' w' s ⟨F,n⟩=>?_;refine Jt (fun g l=>?_) F g' w' s n;refine topW_acq hC B l E fun y I J t ⟨G,r⟩ hJ=>?_;exact topL_idle rfl (fun g ⟨_,_,hR⟩=>K g J hR hJ) G y I t r
 have reg:∀ g w,WgLive L.tWg Wg w->AtReg P L.tWg Wg cs L.wait g w->TopW P n0 w0 Φ L.tWg C Wg .reg 1 ps g h:=by
  rintro g w hw ⟨m,A⟩;refine Jt (fun g l=>?_) m g w hw A;refine Wx (m:=.write (smA Wg)) (.inr (.inr (.inr (.inr (.inr ⟨rfl,_,.inr rfl,rfl⟩))))) rfl l E fun g' w' s ⟨F,n⟩=>?_;refine Jt (fun g l=>?_) F g' w' s n;refine topW_sem l E fun y I t ⟨G,r⟩=>?_;refine Jt (fun g l=>?_) G y I t r;refine Ww (l f d).1 fun w st sm ws h1 h2 _=>?_;cases h2 with
  | fin a =>
   obtain⟨_,b⟩:=l w ⟨_,_,h1⟩;obtain⟨g',b1,Z⟩:=b h1;exact⟨.fin,1,g',w,_,b1,U9,J5 w,rfl,⟨0,0,h1,.fin a⟩,join g' w ⟨_,_,h1⟩ Z⟩
 have loop:∀ k g,Anch L Wg cs g->TopW P n0 w0 Φ L.tWg C Wg (.opn k 0) 1 ps g h:=by
  intro k
  induction k using Nat.strongRecOn with
  | _ k ih =>
   intro g hA;obtain⟨m,A⟩:=waitRound H g hA f d;refine Jt (fun g l=>?_) m g f d A;refine Ww (l f d).1 fun w st sm ws h1 h2 hV=>?_;cases h2 with
   | opn a b J =>
    have e1:((Vw ws:Int)+((0:Nat):Int))*KK=(Vw ws:Int)*KK:=by simp
    have u:=h1;rw[e1]at u;obtain⟨_,O⟩:=l w ⟨_,_,h1⟩;obtain⟨g',X,S,U⟩:=O (Vw ws) (by omega) u;by_cases N:Vw ws=0
    ·refine⟨.fin,1,g',w,_,X,U9,J5 w,rfl,⟨0,0,by rw[N]at u;simpa using u,.fin fun x hx=>?_⟩,join g' w ⟨_,_,h1⟩ (S N)⟩;have:=a x hx;rcases Nat.lt_or_ge (stg x.2) 5 with h5|h5
     ·omega
     ·exfalso;obtain⟨j,hj⟩:=List.getElem?_of_mem hx;have h6:=le_Vw hj;have h7:cntW x.2=1:=by unfold cntW;rw[if_pos h5]
      omega
    ·refine⟨.opn (Vw ws) 0,1,g',w,_,X,U9,J5 w,rfl,⟨_,0,h1,.opn a (Nat.le_refl _) (by omega)⟩,?_⟩;generalize hv:Vw ws=v at *;obtain⟨F,n⟩:=U N;refine Jt (fun g l=>?_) F g' w ⟨_,_,h1⟩ n;refine Ww (l f d).1 fun w2 k0 j0 o M g2 a0=>?_;cases g2 with
     | opn Y Z c2 =>
      have e2:((Vw o:Int)+((0:Nat):Int))*KK=(Vw o:Int)*KK:=by simp
      have z:=M;rw[e2]at z;obtain⟨_,Q⟩:=l w2 ⟨_,_,M⟩;obtain⟨R,miss⟩:=Q (Vw o) (by omega) z;by_cases ev:Vw o=v
      ·obtain⟨p,V,W⟩:=R ev;have g3:=z.setSt ((Vw o:Int)*KK+1);exact⟨.reg,1,p,_,_,V,libE_cells,aside_setCell w2 (stA Wg) _,rfl,⟨_,0,g3,.reg Y (by omega)⟩,reg p _ ⟨_,_,g3⟩ W⟩
      ·obtain⟨p,V,m3,W⟩:=miss ev;refine⟨.opn (Vw o) 0,1,p,w2,_,V,U9,J5 w2,rfl,⟨_,0,M,.opn Y (Nat.le_refl _) (by omega)⟩,?_⟩;exact Jt (fun g l=>ih (Vw o) (by omega) g (l f d)) m3 p w2 ⟨_,_,M⟩ W
 obtain⟨m,A⟩:=D f d;refine Jt (fun g l=>?_) m q f d A;refine Wx (m:=.disable) (.inl rfl) rfl l E fun g' w' s ⟨F,n⟩=>?_;exact Jt (fun g l=>loop k g (l f d)) F g' w' s n
end
section
open Go.ConcR (KK wgBlock WgAt stA smA rd wr)
open Go.ConcN (WgLive)
open Go.Conc.Lib Go.RowKit Go.ConcR.Gen
open WgW
structure Gives(C:Nat)(F:Nat->Bool)(k hc:Cells)(c cc c1:Array Value)(e:TypeId):Prop where
 reads:∀ r x,r≠C->hc r=some x->x.1=false/\freezeC F k r=some x
 have0:k C=some (true,.pending c e)
 hasC:hc C=some (true,.pending cc e)
 size:cc.size=c.size
 size1:c1.size=c.size
 part:∀ (i:Nat) (v:Value),cc[i]?=some v->notHole v=true->c[i]?=some v/\isHole (.pending c1 e) i
 rest:∀ (i:Nat) (v:Value),c1[i]?=some v->notHole v=true->c[i]?=some v
def XG(L:WgLink):XP where
 cond P main R:=XT.cond P main R /\
  (∀ fr cs h C Wg c e,h.chans=[]->h.pend=[]->C≠Wg->h.get C=some (true,.cells c e (0,0))->(∀ (i:Nat) (v:Value),c[i]?=some v->notHole v=true)->h.get Wg=some (true,wgBlock L.tWg 0 0) ->
   R (G fr cs) { h with get:=partedW h.get C Wg c e,chans:=[C,Wg,0],pend:=[[]] }->R (G fr cs) h) /\
  (∀ cs h C Wg ps,h.chans=[C,Wg,0]->h.pend=[]::ps->(∀ g,RetOf L.add cs g->R g { h with chans:=[C,Wg,1] })->R (G (Frame.enter P L.add #[.pointer (some ⟨Wg,0,none⟩),.int .i64 1] .normal) cs) h) /\
  (∀ fr cs h C Wg ps F hc df c cc c1 e j φ,Spawns P fr cs df->h.chans=[C,Wg,1]->h.pend=[]::ps->ps.length+1<2147483646->Gives C F h.get hc c cc c1 e ->
   WkG P L.tWg Wg C (G (baseOf P [df]) []) ⟨hc,[],List.replicate 7 [],[(j,φ)]⟩->R (G (fr.finish undef) cs) { h with get:=keepC F h.get C c1 e,chans:=[C,Wg,0],pend:=[]::(ps++[[(j,φ)]]) }->R (G fr cs) h) /\
  (∀ cs h C Wg ps c e,h.chans=[C,Wg,0]->h.pend=[]::ps->h.get C=some (true,.pending c e)->(∀ (i:Nat) (v:Value),c[i]?=some v->notHole v=true\/∃ φ,[(i,φ)]∈ps) ->
   (∀ g c',RetOf L.wait cs g->Joined ps c c'->R g (h.joined C c' e))->R (G (Frame.enter P L.wait #[.pointer (some ⟨Wg,0,none⟩)] .normal) cs) h)
 stk _ _ _:=True
variable {P:Program} {Φ:Value->World->Prop} {L:WgLink}
variable {a k:Cells}{C Wg n0:Nat}{e:TypeId}{w0:World}{h:LH}{f:FuncId}{args:Array Value}{Q:Value->LH->Prop}
theorem partedW_add{c:Array Value}(hC:k C=none)(hW:k Wg=none):partedW (a.add k) C Wg c e=(partedW a C Wg c e).add k:=by
 funext r;unfold partedW Cells.add;by_cases b:r=C
 ·subst b;simp
 ·by_cases d:r=Wg
  ·subst d;simp[b,hW]
  ·simp[b,d]
theorem keepC_add{F:Nat->Bool}{c1:Array Value}:keepC (fun r=>F r&&(a r).isSome) (a.add k) C c1 e=(keepC F a C c1 e).add k:=by
 funext r;unfold keepC;by_cases b:r=C
 ·subst b;simp[Cells.add]
 ·have:=congrFun (Zs F a k) r;simp only[b,if_false,this];unfold Cells.add;simp[b]
theorem Y6(d:Disj a k){r:Nat}{x:Bool×Obj}(h:a r=some x):k r=none:=by
 rcases d r with h'|h'
 ·rw[h]at h';cases h'
 ·exact h'
theorem Disj.of_sub{b:Cells}(d:Disj a k)(c:∀ r,a r=none->b r=none):Disj b k:=fun r=>(d r).imp_left (c r)
theorem LH.add_noneW(h:LH):h.add (fun _=>none)=h:=by
 unfold LH.add;congr 1;funext r;unfold Cells.add;cases h.get r<;>rfl
theorem XG_ok:XOK (XG L) where
 frame P main R k A hc:=by
  obtain⟨h0,h1,h2,h3,y⟩:=hc;refine⟨XT_ok.frame P main R k A h0,?_,?_,?_,?_⟩
  ·intro fr cs h C Wg c e b f i l a o n d;refine h1 fr cs (h.add k) C Wg c e b f i (Qm l) a (Qm o) ?_;have s:=Y6 d l;have D:=Y6 d o;have:=n (d.of_sub fun r hr=>by
    show partedW h.get C Wg c e r=none;unfold partedW;rw[if_neg (fun m=>by subst m;rw[l]at hr;cases hr),if_neg (fun m=>by subst m;rw[o]at hr;cases hr)];exact hr)
   unfold LH.add at this ⊢;simp only[partedW_add s D]at this ⊢;exact this
  ·intro cs h C Wg ps b f n d;exact h2 cs (h.add k) C Wg ps b f fun g q=>n g q d
  ·intro fr cs h C Wg ps F hc v c cc c1 e j φ b f i l a o n d;refine h3 fr cs (h.add k) C Wg ps (fun r=>F r&&(h.get r).isSome) hc v c cc c1 e j φ b f i l ⟨?_,Qm a.have0,a.hasC,a.size,a.size1,a.part,a.rest⟩ o ?_
   ·intro r x hr B;obtain⟨b1,u⟩:=a.reads r x hr B;refine⟨b1,?_⟩;show freezeC _ (h.get.add k) r=_;rw[Zs];exact Qm u
   ·have:=n (d.of_sub fun r hr=>by
     show keepC F h.get C c1 e r=none;unfold keepC;rw[if_neg (fun m=>by subst m;rw[a.have0]at hr;cases hr)];simp only[freezeC,hr])
    unfold LH.add at this ⊢;simp only[keepC_add]at this ⊢;exact this
  ·intro cs h C Wg ps c e b f i l n d;refine y cs (h.add k) C Wg ps c e b f (Qm i) l fun g p q z=>?_;have s:=Y6 d i;have:=n g p q z (d.of_sub fun r hr=>by
    show h.get.upd C _ r=none;rw[Qk _ _ (fun m=>by subst m;rw[i]at hr;cases hr)];exact hr)
   have w:(h.add k).joined C p e=(h.joined C p e).add k:=by
    unfold LH.joined LH.add;simp only[upd_add]
   rw[w];exact this
 stk P cs:=trivial
/-! ### E is t for -/
def TopX(P:Program)(n0:Nat)(w0:World)(Φ:Value->World->Prop)(ty:TypeId)(g:Goroutine)(h:LH):Prop :=
 ([]∉h.pend->Top P n0 w0 Φ g h)/\∀ C Wg p ps,h.chans=[C,Wg,p]->h.pend=[]::ps->∀ k,TopW P n0 w0 Φ ty C Wg (.opn k p) 0 ps g h
theorem MemW.less{sy:Sy}{cs:Nat->Cells}{ng:Nat}{gone:Nat->Prop}{w:World}{t:Trace}(m:MemW sy n0 w0 C cs ng gone w t)(g:∀ r x,k r=some x->cs 0 r=some x):MemW sy n0 w0 C (fun i=>if i=0 then k else cs i) ng gone w t:=by
 have sub:∀ i r x,(fun i=>if i=0 then k else cs i) i r=some x->cs i r=some x:=by
  intro i r x a;by_cases e:i=0
  ·subst e;simp only[if_true]at a;exact g r x a
  ·simp only[e,if_false]at a;exact a
 have hold:∀ i k' b,holdsP (fun i=>if i=0 then k else cs i) i k'=some b->holdsP cs i k'=some b:=by
  intro i k' b hb;obtain⟨x,a,h,c⟩:=Zd hb;obtain⟨r,q⟩:=k';rw[Jb (sub i r x a) h,c]
 refine⟨fun i r b o hr=>m.fits i r b o (sub i r _ hr),fun i b o hr=>m.part i b o (sub i C _ hr),fun i r b o hC hr=>m.whole i r b o hC (sub i r _ hr),?_,?_,m.cl,?_,m.pos,m.base,fun i r o hr=>m.low i r o (sub i r _ hr),m.size,m.os,m.tape,m.output⟩
 ·refine m.ti.mono (Nat.le_refl _) (Nat.le_refl _) (fun _=>Iff.rfl) (fun i k' b hb=>⟨b,hold i k' b hb,id⟩) ?_;intro i j k' d hb;cases h':holdsP (fun i=>if i=0 then k else cs i) j k' with
  | none=>rfl
  | some b =>
   have h2:=hold j k' b h';rw[m.ti.excl i j k' d (hold i k' true hb)]at h2;cases h2
 ·intro r hr i;cases a:(fun i=>if i=0 then k else cs i) i r with
  | none=>exact a
  | some x=>have:=sub i r x a;rw[m.off r hr i]at this;cases this
 ·intro i f r;cases a:(fun i=>if i=0 then k else cs i) i r with
  | none=>exact a
  | some x=>have:=sub i r x a;rw[m.out i f r]at this;cases this
theorem topW_up{ty:TypeId}{md:MT}{d:Nat}{ps:List Script}{g:Goroutine}{h':LH}(l:TopW P n0 w0 Φ ty C Wg md d ps g h)(m:∀ r x,h.get r=some x->h'.get r=some x):TopW P n0 w0 Φ ty C Wg md d ps g h':=by
 intro sy ws w sl t I;have hm:=I.mem.less (k:=h.get) m;have b:(fun i=>if i=0 then h.get else cellsOf h' ws i)=cellsOf h ws:=by
  funext i;cases i<;>simp[cellsOf]
 rw[b]at hm;refine l sy ws w sl t ⟨hm,I.wg,I.st,fun i x n=>?_,I.pend,I.small,I.deaf0,I.mode,I.oldC,I.spC,I.outC⟩;obtain⟨f,c⟩:=I.tr i x n;refine⟨f,fun a=>⟨(c a).1,fun j=>?_⟩⟩;have e:ownC (cellsOf h ws) C (i+1)=ownC (cellsOf h' ws) C (i+1):=by
  funext k;unfold ownC holdsP;rfl
 rw[e];exact(c a).2 j
theorem add_enter(H:WgLib P L)(Wg:Nat):Frame.enter P L.add #[.pointer (some ⟨Wg,0,none⟩),.int .i64 1] .normal=(base L.add).at ⟨#[.pointer (some ⟨Wg,0,none⟩),.int .i64 1,undef,undef,undef,undef,undef,undef,undef,undef,undef,undef,undef,undef,undef,undef,undef,undef,undef,undef,undef,undef,undef,undef,undef,undef,undef,undef,undef,undef,undef,undef,undef,undef,undef,undef,undef,undef,undef,undef,undef,undef,undef,undef,undef,undef,undef,undef,undef,undef,undef,undef,undef,undef,undef,undef,undef,undef,undef,undef,undef,undef,undef,undef,undef,undef,undef,undef,undef,undef,undef,undef,undef,undef,undef,undef,undef,undef,undef,undef,undef,undef,undef,undef,undef,undef,undef,undef,undef,undef,undef,undef,undef,undef,undef,undef,undef,undef,undef,undef,undef,undef,undef,undef,undef,undef,undef,undef,undef,undef,undef,undef,undef,undef,undef,undef,undef],[]⟩ [.code (body_add L)]:=by
 rw[enter_at (c:=body_add L) _ H.f_add rfl]
 walk_nrmf addFn
theorem wait_enter(H:WgLib P L)(Wg:Nat):Frame.enter P L.wait #[.pointer (some ⟨Wg,0,none⟩)] .normal=(base L.wait).at ⟨#[.pointer (some ⟨Wg,0,none⟩),undef,undef,undef,undef,undef,undef,undef,undef,undef,undef,undef,undef,undef,undef,undef,undef,undef,undef,undef,undef,undef,undef,undef,undef,undef,undef,undef,undef,undef,undef,undef,undef,undef,undef,undef,undef,undef,undef,undef,undef,undef,undef,undef,undef,undef,undef,undef,undef,undef,undef,undef,undef,undef,undef,undef,undef,undef,undef,undef,undef,undef,undef,undef,undef,undef,undef,undef,undef,undef,undef,undef,undef,undef,undef,undef,undef,undef,undef,undef,undef,undef,undef,undef],[]⟩ [.code (body_wait L)]:=by
 rw[enter_at (c:=body_wait L) _ H.f_wait rfl]
 walk_nrmf waitFn
theorem topX_closed(H:WgLib P L)(n0:Nat)(w0:World)(Φ:Value->World->Prop):Closed (XG L) P true (TopX P n0 w0 Φ L.tWg):=by
 have i:∀ {ps:List Script},[]∉([]::ps:List Script)->False:=fun h=>h List.mem_cons_self;refine⟨⟨?_,?_⟩,⟨rfl,?_,?_,?_,?_⟩,?_,?_,?_,?_⟩
 ·intro fr cs h N Q hN;have A:LStep P true (G fr cs) h fun g' h'=>N g' h'/\h'.chans=h.chans/\h'.pend=h.pend:=by
   intro w hf;obtain⟨g',w',es,h',u,n,B,D⟩:=Q w hf;exact⟨g',w',es,h',u,n,B,D,rfl,rfl⟩
  refine⟨fun m=>top_step A fun g' h' l=>(hN g' h' l.1).1 (by rw[l.2.2];exact m),fun C Wg p ps o f k=>topW_step A fun g' h' l=>(hN g' h' l.1).2 C Wg p ps (by rw[l.2.1];exact o) (by rw[l.2.2];exact f) k⟩
 ·intro g h k hT d;exact⟨fun m=>top_up (hT.1 m) d,fun C Wg p ps o f k'=>topW_up (hT.2 C Wg p ps o f k') fun r x Z=>Qm Z⟩
 ·intro fr cs cases shape h hr Q;have heads:∀ s∈h.pend,s≠[]:=fun s A=>by
   obtain⟨c,φ,s',k,z,e,_⟩:=hr.heads s A;rw[e];simp
  refine⟨fun m=>top_recv hr fun pre φ s post k c v hv z O E hd M a0=>(Q pre φ s post k c v hv z O E hd M a0).1 ?_,fun C Wg p ps _ f=>absurd rfl (heads [] (by rw[f];exact List.mem_cons_self))⟩;intro b;apply m;rw[O];rcases List.mem_append.1 b with b|b
  ·exact List.mem_append_left _ b
  ·refine List.mem_append_right _ (List.mem_cons_of_mem _ ?_);cases s with
   | nil=>exact b
   | cons a s =>
    rcases List.mem_cons.1 b with e|b
    ·cases e
    ·exact b
 ·intro fr cs h F hc d s Y X K q U hw l;refine⟨fun _=>top_spawn Y X K U hw (l.1 ?_),fun C Wg p ps _ f=>(i (by rw[<- f];exact q)).elim⟩;intro b;rcases List.mem_append.1 b with b|b
  ·exact q b
  ·exact K (List.mem_singleton.1 b).symm
 ·intro g h c s q Q l;exact⟨fun _=>top_open Q (l.1 q),fun C Wg p ps _ f=>(i (by rw[<- f];exact q)).elim⟩
 ·intro g h c hc m l;exact⟨fun _=>top_close hc m fun V s=>(l V s).1 (by show []∉h.pend;rw[m];simp),fun C Wg p ps _ f=>by rw[m]at f;cases f⟩
 ·intro fr cs h C Wg c e u n B D y S l;exact⟨fun _=>top_begin u n B D y S (h':={ h with get:=partedW h.get C Wg c e,chans:=[C,Wg,0],pend:=[[]] }) rfl (l.2 C Wg 0 [] rfl rfl),fun C Wg p ps _ f=>by rw[n]at f;cases f⟩
 ·intro cs h C Wg ps u n l;refine⟨fun m=>(i (by rw[<- n];exact m)).elim,fun C' J p' R o f k=>?_⟩;rw[u]at o;rw[n]at f;cases o;cases f;intro sy ws w sl t I;refine topW_addW (k:=k) H ⟨w,I.live⟩ (fun w hw=>by rw[add_enter H];exact addW H w hw) (fun g W=>?_) sy ws w sl t I;exact topW_up ((l g W).2 C Wg 1 ps rfl n k) fun r x Z=>Z
 ·intro fr cs h C Wg ps F hc df c cc c1 e j φ u n B D y S l;refine⟨fun m=>(i (by rw[<- B];exact m)).elim,fun C' J p' R o f k=>?_⟩;rw[n]at o;rw[B]at f;cases o;cases f;exact topW_spawn u y.reads y.have0 y.hasC y.size y.size1 y.part y.rest S D (h':={ h with get:=keepC F h.get C c1 e,chans:=[C,Wg,0],pend:=[]::(ps++[[(j,φ)]]) }) rfl (l.2 C Wg 0 _ rfl rfl) k
 ·intro cs h C Wg ps c e u n B D l;refine⟨fun m=>(i (by rw[<- n];exact m)).elim,fun C' J p' R o f k=>?_⟩;rw[u]at o;rw[n]at f;cases o;cases f;intro sy ws w sl t I;exact topW_wait H B D ⟨w,I.live⟩ (fun g c' W hJ=>(l g c' W hJ).1 (by show []∉([]:List Script);simp)) (fun w hw=>by rw[wait_enter H];exact waitStart H w hw) k sy ws w sl t I
theorem run_wellG(H:WgLib P L){get:Cells}(t:Fits get w0)(l:∀ r x,get r=some x->x.1=false)(m:∀ r b o,get r=some (b,o)->∀ i,¬ isHole o i)(j:P.inits.idxOf? f=none)
 (c:FWK (XG L) P .normal f args ⟨get,[],[],[]⟩ Q)(u:∀ v h',Q v h'->h'.pend=[]/\∀ w',Fits h'.get w'->KeptW w0.heap.size w0 w'->Φ v w'):EndsWell P Φ (solo (G (Frame.enter P f args .normal) []) w0) #[]:=by
 have w:TopX P w0.heap.size w0 Φ L.tWg (G (Frame.enter P f args .normal) []) ⟨get,[],[],[]⟩:=by
  refine c.2 true _ (topX_closed H _ w0 Φ) [] trivial ?_;intro fr v h' k g d hr A;obtain⟨s,n⟩:=u v h' A;refine⟨fun _=>top_ret (h:=h'.add k) hr (by rw[g];exact j) s fun w' y z=>n w' y.left z,fun C Wg p ps _ q=>?_⟩;rw[show (h'.add k).pend=h'.pend from rfl,s]at q;cases q
 exact top_start t l m (w.1 (by simp))
/-! ### e withoutC a hold with a -/
theorem XG_up{main:Bool}{R:Goroutine->LH->Prop}(c:Closed (XG L) P main R):Closed XT P main R:=⟨c.1,c.2.1⟩
theorem FW.up{kd:CallKind}(c:FWK XT P kd f args h Q):FWK (XG L) P kd f args h Q:=⟨c.1,fun main R a cs _ b=>c.2 main R (XG_up a) cs trivial b⟩
end
section
open Go.ConcR (KK wgBlock WgAt stA smA rd wr Payload DC0)
open Go.ConcN (WgLive RW DWs AtR0 AtK1 AtD1 AtD2 AtD3 AtD4 Has)
open Go.Conc.Lib Go.RowKit Go.ConcR.Gen Go.ConcN.Gen
open WgW
variable {P:Program} {L:WgLink} {ty:TypeId} {Wg:Nat}
section
@[reducible] def payOf (ty:TypeId):Payload:=⟨ty⟩
abbrev RWg(ty:TypeId)(Wg:Nat):World->World->Prop:=@RW (payOf ty) ty Wg Wg 2 0 1
variable {w:World}{c:Frame}{cs:List Frame}
theorem rwg{a:World}(h:W0 ty Wg w)(h₁:W0 ty Wg a):RWg ty Wg w a:=by
 obtain⟨st,h⟩:=h;obtain⟨c,h₁⟩:=h₁
 letI:=payOf ty
 exact⟨fun b hb=>absurd hb (Nat.not_lt_zero b),fun _=>⟨c,0,h₁⟩,fun _=>⟨_,h₁,rfl⟩,(WgAt.cellSm h₁).trans (WgAt.cellSm h).symm⟩
theorem life2:∀ (m:Nat) (g:Goroutine) (w:World),W0 ty Wg w->Goes P false (RWg ty Wg) DC0 (AtD4 P ty Wg) m g w->Life P ty Wg 2 1 g:=by
 have stop:∀ (g:Goroutine) (w:World),W0 ty Wg w->(∀ a,RWg ty Wg w a->AtD4 P ty Wg g a)->Life P ty Wg 2 1 g:=by
  intro g w hw b;obtain⟨hr,hm,_⟩:=b w (rwg hw hw);refine Life.sem' hr hm fun a h₁=>?_;obtain⟨_,_,h3⟩:=b a (rwg hw ⟨_,h₁⟩);obtain⟨g',c,q,d⟩:=h3 h₁;exact⟨g',c,.quit d⟩
 intro m
 induction m with
 | zero=>intro g w hw b;exact stop g w hw b
 | succ m h =>
  intro g w hw b;rcases b with b|⟨hr,b⟩
  ·exact stop g w hw b
  ·refine K3 (by omega) (by omega) hr fun a h₁=>?_;obtain⟨g',w',es,c,⟨d,e⟩,f⟩:=goes_elim (b a (rwg hw h₁));subst d e;exact⟨g',c,h g' w' h₁ f⟩
theorem life3:∀ (m:Nat) (g:Goroutine) (w:World),W0 ty Wg w->Goes P false (RWg ty Wg) DC0 (@AtD3 (payOf ty) P ty Wg Wg 2 0 2) m g w->Life P ty Wg 3 1 g:=by
 have stop:∀ (g:Goroutine) (w:World),W0 ty Wg w->(∀ a,RWg ty Wg w a->@AtD3 (payOf ty) P ty Wg Wg 2 0 2 g a)->Life P ty Wg 3 1 g:=by
  intro g w hw b;obtain⟨hr,_⟩:=b w (rwg hw hw);refine Life.store' hr fun a h₁=>?_;obtain⟨_,h3⟩:=b a (rwg hw ⟨_,h₁⟩);obtain⟨g',c,m,d⟩:=h3 h₁;exact⟨g',c,life2 m g' _ ⟨0,h₁.setSt 0⟩ d⟩
 intro m
 induction m with
 | zero=>intro g w hw b;exact stop g w hw b
 | succ m h =>
  intro g w hw b;rcases b with b|⟨hr,b⟩
  ·exact stop g w hw b
  ·refine K3 (by omega) (by omega) hr fun a h₁=>?_;obtain⟨g',w',es,c,⟨d,e⟩,f⟩:=goes_elim (b a (rwg hw h₁));subst d e;exact⟨g',c,h g' w' h₁ f⟩
theorem life4:∀ (m:Nat) (g:Goroutine) (w:World),W0 ty Wg w->Goes P false (RWg ty Wg) DC0 (@AtD2 (payOf ty) P ty Wg Wg 2 0 2) m g w->Life P ty Wg 4 1 g:=by
 have stop:∀ (g:Goroutine) (w:World),W0 ty Wg w->(∀ a,RWg ty Wg w a->@AtD2 (payOf ty) P ty Wg Wg 2 0 2 g a)->Life P ty Wg 4 1 g:=by
  intro g w hw b;obtain⟨hr,_⟩:=b w (rwg hw hw);refine Life.load' hr fun a h₁=>?_;obtain⟨_,h3⟩:=b a (rwg hw ⟨_,h₁⟩);obtain⟨g',c,m,d⟩:=h3 h₁;exact⟨g',c,life3 m g' _ ⟨1,h₁⟩ d⟩
 intro m
 induction m with
 | zero=>intro g w hw b;exact stop g w hw b
 | succ m h =>
  intro g w hw b;rcases b with b|⟨hr,b⟩
  ·exact stop g w hw b
  ·refine K3 (by omega) (by omega) hr fun a h₁=>?_;obtain⟨g',w',es,c,⟨d,e⟩,f⟩:=goes_elim (b a (rwg hw h₁));subst d e;exact⟨g',c,h g' w' h₁ f⟩
theorem life5:∀ (m:Nat) (g:Goroutine) (w:World),W0 ty Wg w->Goes P false (RWg ty Wg) DC0 (@AtD1 (payOf ty) P ty Wg Wg 2 0 2) m g w->Life P ty Wg 5 1 g:=by
 have stop:∀ (g:Goroutine) (w:World),W0 ty Wg w->(∀ a,RWg ty Wg w a->@AtD1 (payOf ty) P ty Wg Wg 2 0 2 g a)->Life P ty Wg 5 1 g:=by
  intro g w hw b;obtain⟨hr,_⟩:=b w (rwg hw hw);refine Life.add' hr fun v wt a b1 i h₁=>?_;obtain⟨_,h3⟩:=b a (rwg hw ⟨_,h₁⟩);obtain⟨g',d,f,h⟩:=h3 v wt b1 i h₁;refine⟨g',d,fun e=>?_,fun e=>?_⟩
  ·obtain⟨m,c⟩:=f e;exact life4 m g' _ ⟨_,h₁.setSt _⟩ c
  ·obtain⟨q,c⟩:=h e;exact .quit c
 intro m
 induction m with
 | zero=>intro g w hw b;exact stop g w hw b
 | succ m j =>
  intro g w hw b;rcases b with b|⟨hr,b⟩
  ·exact stop g w hw b
  ·refine K3 (by omega) (by omega) hr fun a h₁=>?_;obtain⟨g',w',es,d,⟨f,h⟩,c⟩:=goes_elim (b a (rwg hw h₁));subst f h;exact⟨g',d,j g' w' h₁ c⟩
abbrev Idl(P:Program)(ty:TypeId)(Wg:Nat)(Stop:Goroutine->World->Prop)(g:Goroutine)(w:World):Prop:=∃ m,Goes P false (RM ty Wg) DC0 Stop m g w
def AtMk(P:Program)(m:Mark)(Next:Goroutine->World->Prop)(g:Goroutine)(w:World):Prop:=g.status=.running/\∃ g',stepG P false g w=.go g' w #[Go.ConcR.mk m]/\Next g' w
def noL:Nat->Loc->Prop:=fun _ _=>False
theorem Wm{g g':Goroutine}{w':World}{es a:Array Event}{x:Goroutine}{u:World}(h:stepG P false x u=.go g w es)(h':stepG P false x u=.go g' w' a):g=g'/\w=w'/\es=a:=by
 rw[h]at h';cases h';exact⟨rfl,rfl,rfl⟩
theorem life6:∀ (m:Nat) (g:Goroutine) (w:World),W0 ty Wg w->Goes P false (RM ty Wg) DC0 (AtMk P .disable fun _ _=>True) m g w->∀ k w',W0 ty Wg w'->Goes P false (RWg ty Wg) DC0 (@AtK1 (payOf ty) P ty Wg Wg 2 0 2) k g w'->Life P ty Wg 6 0 g:=by
 have live:∀ {w:World},W0 ty Wg w->WgLive ty Wg w:=fun ⟨st,h⟩=>⟨st,0,h⟩;have stop:∀ (g:Goroutine) (w:World),W0 ty Wg w->(∀ a,RM ty Wg w a->AtMk P .disable (fun _ _=>True) g a)->∀ k w',W0 ty Wg w'->Goes P false (RWg ty Wg) DC0 (@AtK1 (payOf ty) P ty Wg Wg 2 0 2) k g w'->Life P ty Wg 6 0 g:=by
  intro g w hw i k w' b d;refine Life.dis' (i w fun h=>h).1 fun a h₁=>?_;obtain⟨hr,g',j,_⟩:=i a fun _=>live h₁;refine⟨g',j,?_⟩;have c:@AtK1 (payOf ty) P ty Wg Wg 2 0 2 g a->Life P ty Wg 5 1 g':=by
   rintro⟨_,l,b1,m,n⟩;obtain⟨e,_,_⟩:=Wm j b1;subst e;exact life5 m g' a h₁ n
  cases k with
  | zero=>exact c (d a (rwg b h₁))
  | succ k =>
   rcases d with d|⟨_,d⟩
   ·exact c (d a (rwg b h₁))
   ·obtain⟨l,w2,es,b1,⟨_,o⟩,_⟩:=goes_elim (d a (rwg b h₁));obtain⟨_,_,e⟩:=Wm j b1;rw[o]at e;simp at e
 intro m
 induction m with
 | zero=>intro g w hw i;exact stop g w hw i
 | succ m v =>
  intro g w hw i k w' b d;rcases i with i|⟨hr,i⟩
  ·exact stop g w hw i k w' b d
  ·refine K3 (by omega) (by omega) hr fun a h₁=>?_;obtain⟨g',f,es,j,⟨p,q⟩,r⟩:=goes_elim (i a fun _=>live h₁);subst p q;refine⟨g',j,?_⟩;have no:¬ @AtK1 (payOf ty) P ty Wg Wg 2 0 2 g f:=by
    rintro⟨_,l,b1,_⟩;obtain⟨_,_,e⟩:=Wm j b1;simp at e
   cases k with
   | zero=>exact absurd (d f (rwg b h₁)) no
   | succ k =>
    rcases d with d|⟨_,d⟩
    ·exact absurd (d f (rwg b h₁)) no
    ·obtain⟨l,w2,es,b1,⟨n,o⟩,s⟩:=goes_elim (d f (rwg b h₁));obtain⟨t,u,_⟩:=Wm j b1;subst t u;exact v g' f h₁ r k f h₁ s
abbrev KitR0(P:Program)(ty:TypeId)(Wg:Nat)(m:Nat)(g:Goroutine)(w:World):Prop:=Goes P false (RWg ty Wg) (@DWs (payOf ty) Wg noL noL Wg 2 2) (@AtR0 (payOf ty) P ty Wg Wg 2 0 2 (.int .u32 0)) m g w
theorem not_late:∀ (m:Nat) (g:Goroutine) (w:World),W0 ty Wg w->Goes P false (RM ty Wg) DC0 (AtMk P .disable fun _ _=>True) m g w->∀ k,KitR0 P ty Wg k g w->False:=by
 have live:∀ {w:World},W0 ty Wg w->WgLive ty Wg w:=fun ⟨st,h⟩=>⟨st,0,h⟩;have stop:∀ (g:Goroutine) (w:World),W0 ty Wg w->AtMk P .disable (fun _ _=>True) g w->∀ k,KitR0 P ty Wg k g w->False:=by
  intro g w hw ⟨_,g',f,_⟩ k b;have no:¬ @AtR0 (payOf ty) P ty Wg Wg 2 0 2 (.int .u32 0) g w:=by
   rintro⟨_,_,i,b1,_⟩;obtain⟨_,_,e⟩:=Wm f b1;have:=congrArg (fun a:Array Event=>a[0]?.map (·.loc)) e;cases this
  cases k with
  | zero=>exact no (b w (rwg hw hw))
  | succ k =>
   rcases b with b|⟨_,b⟩
   ·exact no (b w (rwg hw hw))
   ·obtain⟨i,w2,es,b1,⟨_,o⟩,_⟩:=goes_elim (b w (rwg hw hw));obtain⟨_,_,e⟩:=Wm f b1;subst e;exact(o (Go.ConcR.mk .disable) (by simp)).2.1 rfl
 intro m
 induction m with
 | zero=>intro g w hw d k b;exact stop g w hw (d w fun h=>h) k b
 | succ m s =>
  intro g w hw d k b;rcases d with d|⟨hr,d⟩
  ·exact stop g w hw (d w fun h=>h) k b
  ·obtain⟨g',c,es,f,⟨j,l⟩,n⟩:=goes_elim (d w fun h=>h);subst j l;have no:¬ @AtR0 (payOf ty) P ty Wg Wg 2 0 2 (.int .u32 0) g c:=by
    rintro⟨_,_,i,b1,_⟩;obtain⟨_,_,e⟩:=Wm f b1;simp at e
   cases k with
   | zero=>exact no (b c (rwg hw hw))
   | succ k =>
    rcases b with b|⟨_,b⟩
    ·exact no (b c (rwg hw hw))
    ·obtain⟨i,w2,es,b1,_,p⟩:=goes_elim (b c (rwg hw hw));obtain⟨q,r,_⟩:=Wm f b1;subst q r;exact s g' c hw n k p
theorem life7:∀ (m:Nat) (g:Goroutine) (w:World),W0 ty Wg w->Goes P false (RM ty Wg) DC0 (AtMk P (.releaseMerge (stA Wg)) (Idl P ty Wg (AtMk P .disable fun _ _=>True))) m g w->∀ k w',W0 ty Wg w'->KitR0 P ty Wg k g w'->Life P ty Wg 7 0 g:=by
 have live:∀ {w:World},W0 ty Wg w->WgLive ty Wg w:=fun ⟨st,h⟩=>⟨st,0,h⟩;have stop:∀ (g:Goroutine) (w:World),W0 ty Wg w->(∀ a,RM ty Wg w a->AtMk P (.releaseMerge (stA Wg)) (Idl P ty Wg (AtMk P .disable fun _ _=>True)) g a)->∀ k w',W0 ty Wg w'->KitR0 P ty Wg k g w'->Life P ty Wg 7 0 g:=by
  intro g w hw i k w' b d;refine Life.rel' (i w fun h=>h).1 fun a h₁=>?_;obtain⟨hr,g',j,r,l⟩:=i a fun _=>live h₁;refine⟨g',j,?_⟩;have c:@AtR0 (payOf ty) P ty Wg Wg 2 0 2 (.int .u32 0) g a->Life P ty Wg 6 0 g':=by
   rintro⟨_,_,q,b1,m,u⟩;obtain⟨e,_,_⟩:=Wm j b1;subst e;exact life6 r g' a h₁ l m a h₁ u
  cases k with
  | zero=>exact c (d a (rwg b h₁))
  | succ k =>
   rcases d with d|⟨_,d⟩
   ·exact c (d a (rwg b h₁))
   ·obtain⟨q,w2,es,b1,_,n⟩:=goes_elim (d a (rwg b h₁));obtain⟨o,p,_⟩:=Wm j b1;subst o p;exact(not_late r g' a h₁ l k n).elim
 intro m
 induction m with
 | zero=>intro g w hw i;exact stop g w hw i
 | succ m v =>
  intro g w hw i k w' b d;rcases i with i|⟨hr,i⟩
  ·exact stop g w hw i k w' b d
  ·refine K3 (by omega) (by omega) hr fun a h₁=>?_;obtain⟨g',f,es,j,⟨l,s⟩,t⟩:=goes_elim (i a fun _=>live h₁);subst l s;refine⟨g',j,?_⟩;have no:¬ @AtR0 (payOf ty) P ty Wg Wg 2 0 2 (.int .u32 0) g f:=by
    rintro⟨_,_,q,b1,_⟩;obtain⟨_,_,e⟩:=Wm j b1;simp at e
   cases k with
   | zero=>exact absurd (d f (rwg b h₁)) no
   | succ k =>
    rcases d with d|⟨_,d⟩
    ·exact absurd (d f (rwg b h₁)) no
    ·obtain⟨q,w2,es,b1,_,n⟩:=goes_elim (d f (rwg b h₁));obtain⟨o,p,_⟩:=Wm j b1;subst o p;exact v g' f h₁ t k f h₁ n
set_option maxHeartbeats 8000000 in
theorem doneHead(H:WgLib P L){Wg:Nat}(w:World)(a:WgLive L.tWg Wg w) :
  Idl P L.tWg Wg (AtMk P (.releaseMerge (stA Wg)) (Idl P L.tWg Wg (AtMk P .disable fun _ _=>True))) (G ((baseD L.done).at ⟨#[.pointer (some ⟨Wg,0,none⟩),undef,undef,undef],[]⟩ [.code (body_done L)]) (c::cs)) w:=by
 lib_facts
 refine⟨500,?_⟩;simp only[body_done,body_add,doneFn,addFn,Option.getD_some];u_reg rm a;u_op rm a;u_call H.f_add (nm_add L) addFn rm a
 repeat first
  | u_c stepG_seq rm a
  | u_c stepG_region_end rm a
  | u_c stepG_skip rm a
  | u_reg rm a
  | u_cond true rm a
  | u_cond false rm a
  | u_op rm a
  | u_conv H.underlying_tWgP H.room_tWg (WgLive.cell0 a).choose_spec rm a
 refine Goes.stop (fun b h₁=>?_);replace a:=rm a h₁;clear h₁;refine⟨rfl,_,stepG_markAt .releaseMerge (by simp) rfl rfl (by k_ne) rfl H.f_relMerge (x_relMerge_n L) (x_relMerge_b L) (x_relMerge_x L) (x_relMerge_f L) (by simp[Act.eval,stA]),500,?_⟩;walk_nrm
 repeat first
  | u_c stepG_seq rm a
  | u_c stepG_region_end rm a
  | u_c stepG_skip rm a
  | u_reg rm a
 refine Goes.stop (fun b h₁=>?_);exact⟨rfl,_,stepG_mark0 .disable (by simp) rfl rfl (by k_ne) rfl H.f_disable (x_disable_n L) (x_disable_b L) (x_disable_x L) (x_disable_f L),trivial⟩
theorem done_life(H:WgLib P L){Wg:Nat}{b:Nat}(a:c.mode=.returning)(f:QuitsD P b 0 (G c cs))(hw:∃ w,W0 L.tWg Wg w):Life P L.tWg Wg 7 0 (G ((baseD L.done).at ⟨#[.pointer (some ⟨Wg,0,none⟩),undef,undef,undef],[]⟩ [.code (body_done L)]) (c::cs)):=by
 obtain⟨w,st,hw⟩:=hw;obtain⟨m,d⟩:=doneHead (c:=c) (cs:=cs) H w ⟨st,0,hw⟩;have e:=@doneN (payOf L.tWg) L P H noL noL Wg Wg 2 0 2 (.int .u32 0) c cs b a f w ⟨⟨st,0,hw⟩,WgAt.cellSm hw⟩;exact life7 m _ w ⟨st,hw⟩ d _ w ⟨st,hw⟩ e
end
end
section
open Go.ConcR (KK wgBlock WgAt stA smA rd wr)
open Go.Conc.Lib Go.RowKit Go.ConcR.Gen
open WgW
variable {P:Program} {L:WgLink} {Wg C:Nat}
variable {g:Goroutine}{h:LH}{main:Bool}{cs:List Frame}{tmps first args cap c:Array Value}{todo:List Item}{f:FuncId}{fd:Func}{hc:Cells}{j:Nat}{φ:Value->Cells->Prop}{Q:Value->LH->Prop}{e:TypeId}
theorem WkG.up{ty:TypeId}(a:WkG P ty Wg C g h):∀ k,Disj h.get k->WkG P ty Wg C g (h.add k):=by
 induction a with
 | work p _ q =>
  intro k d;refine .work (p.frame d) ?_;rintro g' b ⟨h',d',rfl,n⟩;exact q g' h' n k d'
 | done o l =>
  intro k d;obtain⟨j,φ,c,e,v,f,i,m⟩:=o.kept;exact .done ⟨j,φ,c,e,v,f,Qm i,m⟩ l
theorem wkg_closed(P:Program)(ty:TypeId)(Wg C:Nat):Closed X0 P false (fun g h=>WkG P ty Wg C g h) :=
 ⟨⟨fun _ _ _ _ b a=>.work b a,fun _ _ k hw d=>hw.up k d⟩,trivial⟩
theorem take_marksD{P:Program}{R:Goroutine->LH->Prop}(l:LClosed P main R){fn:FI}{ds:List Deferred}:∀ (mk:List Nat) (a:Cells),mk.Nodup->Disj h.get a->(∀ r∈mk,a r=some (true,.deferred (some []))) ->
  (∀ g,Disj h.get g->R (G { mkF fn ds none tmps todo with mode:=.returning } cs) (h.add g))->R (G { mkF fn (mk.map markOf++ds) none tmps todo with mode:=.returning } cs) (h.add a):=by
 intro mk
 induction mk with
 | nil=>intro a _ d _ i;exact i a d
 | cons r mk n =>
  intro a m d hm i;have hr:=hm r (by simp);have c:h.get r=none:=by
   rcases d r with h'|h'
   ·exact h'
   ·rw[hr]at h';cases h'
  refine mv_takeDeferred l (r:=r) (by show h.get.add a r=_;rw[Qv c];exact hr) ?_;have e:(h.get.add a).upd r (true,.deferred none)=h.get.add (a.upd r (true,.deferred none)):=by
   funext b;unfold Cells.upd Cells.add;by_cases e:b=r
   ·subst e;simp[c]
   ·simp[e]
  show R _ { h.add a with get:=(h.get.add a).upd r (true,.deferred none) };rw[e];have f:=List.nodup_cons.1 m;refine n (a.upd r (true,.deferred none)) f.2 ?_ (fun q k=>?_) i
  ·intro b;by_cases e:b=r
   ·subst e;exact .inl c
   ·rw[Qk _ _ e];exact d b
  ·have j:q≠r:=by rintro rfl;exact f.1 k
   rw[Qk _ _ j];exact hm q (by simp[k])
def undefer(f:Func):Func:={ f with body:=match f.body with|some (.seq _ b)=>some b|c=>c }
theorem leave_quits(c:P.funcs[f]?=some fd)(a:fd.results=#[]):QuitsD P 2 0 (G { mkF ⟨f,.deferred,by simp⟩ [] none tmps todo with mode:=.returning } [baseOf P []]):=by
 have b:(P.funcs[P.funcs.size]?)=none:=Array.getElem?_eq_none (Nat.le_refl _);refine QuitsD.of_quitsIn (.inr ⟨rfl,G (baseOf P []) [],fun w=>?_,.inr ⟨rfl,{ frame:=baseOf P [],callers:=[],status:=.finished,dying:=none },fun w=>?_,rfl⟩⟩)
 ·have h1:(results fd tmps).run P w=.ok (.tuple #[]) w:=by rw[<- Sem.runT_fst _ _ _ #[],Gk a]
  have h2:(results fd tmps).events P w #[]=#[]:=by show ((results fd tmps).runT P w #[]).2=_;rw[Gk a]
  simp[G,mkF,stepG,unwind,c,h1,h2,GStep.after,doReturn,baseOf,goexitEntry];rfl
 ·simp[G,stepG,unwind,baseOf,Frame.catches,goexitEntry,show (default:Frame).todo=[] from rfl]
theorem some_wg(ty:TypeId)(Wg:Nat):∃ w,W0 ty Wg w:=by
 refine⟨{ (default:World) with heap:=(Array.replicate Wg (.pending #[] 0)).push (wgBlock ty 0 0) },0,?_⟩;show ((Array.replicate Wg (Obj.pending #[] 0)).push (wgBlock ty 0 0))[Wg]?=_;rw[Array.getElem?_push];simp
theorem worker_wk(H:WgLib P L){X:Ctx}(hX:X.P=P)(hkd:X.kd=.normal){rest:List Value}{id:Nat}{o:Oper}{b:Code}{ats:Array TypeId}
 (hf : P.funcs[f]? = some fd)(hn : (fd.name == "runtime.NumGoroutine") = false)(hb : fd.body = some (.seq (.region id #[o] false) b))(hres : fd.results = #[])(ho : o.op = .defer { callee := .value (.func L.done), args := #[.tmp 0], argTypes := ats })(hdst : o.dst = none)
 (hgu:∀ y,Region.wanted o y=true)(ha:(first++args)++cap=(Value.pointer (some ⟨Wg,0,none⟩)::rest).toArray)
 (hT:(ftree X (undefer fd) (Value.pointer (some ⟨Wg,0,none⟩)::rest)).wp X0 X.P (retQ fun _ h'=>Kept C h') ⟨hc,[],List.replicate 7 [],[(j,φ)]⟩) :
  WkG P L.tWg Wg C (G (baseOf P [deferOf (.func (.func f) first cap) args]) []) ⟨hc,[],List.replicate 7 [],[(j,φ)]⟩:=by
 subst hX;have hcl:=wkg_closed X.P L.tWg Wg C
 -- it is entered
 refine WkG.work (N:=fun g h=>g=G (Frame.enter X.P f (Value.pointer (some ⟨Wg,0,none⟩)::rest).toArray .deferred) [baseOf X.P []]/\h=⟨hc,[],List.replicate 7 [],[(j,φ)]⟩) ?_ ?_
 ·intro w hfit;refine⟨_,w,#[],hc,?_,Tr.refl hfit,by simp,rfl,rfl⟩;have hbn:fd.body.isNone=false:=by rw[hb];rfl
  have hcall:(callFunc f (Value.pointer (some ⟨Wg,0,none⟩)::rest).toArray).runT X.P w #[]=(.ok (.enter f (Value.pointer (some ⟨Wg,0,none⟩)::rest).toArray) w,#[]):=by
   show ((program).bind _).runT X.P w #[]=_;simp only[program,Sem.bind,Sem.runT,hf,hn,hbn,Bool.false_eq_true,if_false];rfl
  have hinv:invoke (deferOf (.func (.func f) first cap) args).target (deferOf (.func (.func f) first cap) args).args=callFunc f (Value.pointer (some ⟨Wg,0,none⟩)::rest).toArray:=by rw[<- ha];rfl
  have hnil:((deferOf (.func (.func f) first cap) args).target matches .nil)=false:=rfl;have hcd:∀ fr cs,callDeferred X.P fr cs none (deferOf (.func (.func f) first cap) args) w=.go (G (Frame.enter X.P f (Value.pointer (some ⟨Wg,0,none⟩)::rest).toArray .deferred) (fr::cs)) w (seen X.P fr.fn #[]):=by
   intro fr cs;unfold callDeferred;simp only[hinv,hnil,Bool.false_and,Bool.false_eq_true,if_false,hcall];rfl
  show unwind X.P false (baseOf X.P [deferOf (.func (.func f) first cap) args]) [] none w=_;unfold unwind;simp only[baseOf,deferOf];exact hcd _ _
 ·rintro _ _ ⟨rfl,rfl⟩;unfold ftree at hT;have hbody:(undefer fd).body=some b:=by unfold undefer;rw[hb]
  have hnt0:(undefer fd).ntmps=fd.ntmps:=rfl;have hres0:(undefer fd).results=fd.results:=rfl;rw[hbody,hnt0,hres0]at hT;split at hT
  ·rename_i c hb' hchk;cases hb';simp only[Bool.and_eq_true]at hchk;have hlen:=Nat.le_of_ble_eq_true hchk.1;have hnt:=Nat.le_of_ble_eq_true hchk.2.1;have hds:=allBelow_spec hchk.2.2;rw[Dl]at hlen;let fn:FI:=⟨f,.deferred,by simp⟩
   let tm:Array Value:=(Value.pointer (some ⟨Wg,0,none⟩)::rest).toArray++Array.replicate (fd.ntmps-(Value.pointer (some ⟨Wg,0,none⟩)::rest).length) undef;have hen:Frame.enter X.P f (Value.pointer (some ⟨Wg,0,none⟩)::rest).toArray .deferred=mkF fn [] none tm [.code (.seq (.region id #[o] false) b)]:=by
    simp[Frame.enter,hf,hb,mkF,fn,tm]
   rw[hen];refine mv_seq hcl.1 (mv_region hcl.1 ?_);have ht0:tm[0]?=some (.pointer (some ⟨Wg,0,none⟩)):=by
    show ((Value.pointer (some ⟨Wg,0,none⟩)::rest).toArray++_)[0]?=_;rw[Array.getElem?_append_left (by simp)];rfl
   refine Jm hcl.1 (g':=G (mkF fn [dcall L.done #[.pointer (some ⟨Wg,0,none⟩)]] none tm [.inRegion #[o] [],.code b]) [baseOf X.P []]) (fun w=>?_) ?_
   ·have:=stepG_defer (P:=X.P) (main:=false) (b:=baseD f) (a:=⟨tm,[]⟩) (k:=[.code b]) (cs:=[baseOf X.P []]) (w:=w) (ops:=#[o]) (i:=0) (rest:=[]) (o:=o) rfl (hgu _) (by simp[baseD]) ho;have e1:(baseD f).at ⟨tm,[]⟩ (.inRegion #[o] [0]::[.code b])=mkF fn [] none tm [.inRegion #[o] (List.range #[o].size),.code b]:=rfl;rw[<- e1,this];congr 2;have e2:(Act.mk tm []).eval (.tmp 0)=.pointer (some ⟨Wg,0,none⟩):=by
     simp only[Act.eval];rw[Array.getD_eq_getD_getElem?,ht0];rfl
    have e3:(#[Operand.tmp 0].map (Act.mk tm []).eval)=#[.pointer (some ⟨Wg,0,none⟩)]:=by
     rw[<- e2];simp
    show (baseD f).at (Act.put ⟨tm,dcall L.done (#[Operand.tmp 0].map (Act.mk tm []).eval)::[]⟩ o.dst undef) _=_;rw[e3,hdst];rfl
   ·refine Hl hcl.1 ?_;have hadd:(⟨hc,[],List.replicate 7 [],[(j,φ)]⟩ : LH)=LH.add ⟨hc,[],List.replicate 7 [],[(j,φ)]⟩ (fun _=>none):=(LH.add_noneW _).symm;rw[hadd];refine Zb Qn hcl trivial (fn:=fn) b _ (fun _=>False) [dcall L.done #[.pointer (some ⟨Wg,0,none⟩)]] _ _ _ _ (fun x=>x) _ _ _ ?_ ?_ (fun _=>.inr rfl) (fun _ h=>h.elim) ?_ hT ?_
    ·intro hfin;unfold finOf at hfin;rw[hkd]at hfin;split at hfin
     ·rename_i h1 _;cases h1
     ·cases hfin
    ·refine⟨?_,?_,?_,?_,?_,?_⟩
     ·intro i a hi hg hb';obtain⟨v,rfl,_,h3,h4⟩:=Js hg;show tm[i]?=_;rw[Array.getElem?_append_left (by simpa using h3)];simpa[conc] using h4
     ·intro s v hs hg;obtain⟨_,_,_,h3,_⟩:=Js hg;omega
     ·intro s v hs hg;obtain⟨_,_,_,h3,_⟩:=Js hg;omega
     ·intro s s' a a' hs _ hg;obtain⟨_,_,_,h3,_⟩:=Js hg;omega
     ·intro s v hs hg;obtain⟨_,_,_,h3,_⟩:=Js hg;omega
     ·intro s v hs hg;obtain⟨_,_,_,h3,_⟩:=Js hg;omega
    ·intro d hd;have:=hds d hd;simp[tm];omega
    ·intro x e' t' σ' hp' h' PB' mk s' dj' hN h1 h2 h3 h4 h5 hT';have fin:Kept C h'->∀ todo,WkG X.P L.tWg Wg C (G { mkF fn (mk.map markOf++[dcall L.done #[.pointer (some ⟨Wg,0,none⟩)]]) none t' todo with mode:=.returning } [baseOf X.P []]) (h'.add hp'):=by
      intro hk todo;refine take_marksD (R:=fun g h=>WkG X.P L.tWg Wg C g h) hcl.1 mk hp' h4 dj' (fun r hr=>(h3 r hr).2) fun hp'' dj''=>?_;refine Jm hcl.1 (g':=G ((baseD L.done).at ⟨#[.pointer (some ⟨Wg,0,none⟩),undef,undef,undef],[]⟩ [.code (body_done L)]) [{ mkF fn [] none t' todo with mode:=.returning },baseOf X.P []]) (fun w=>?_) ?_
      ·exact stepG_unwind_enter (P:=X.P) (main:=false) (b:=baseD f) (a:=⟨t',[dcall L.done #[.pointer (some ⟨Wg,0,none⟩)]]⟩) (todo:=todo) (cs:=[baseOf X.P []]) (w:=w) rfl H.f_done (nm_done L) rfl
      ·have hk':Kept C (h'.add hp''):=by
        obtain⟨j,φ,c,e,v,a1,a2,a3⟩:=hk.kept;exact⟨j,φ,c,e,v,a1,Qm a2,a3⟩
       exact .done hk' (done_life H rfl (leave_quits hf hres) (some_wg _ _))
     have hres':∀ {e'},(resT X e' fd.results.toList fun l=>match l with
       | [v]=>.leaf (.ret v)
       | l=>.leaf (.ret (.tuple l.toArray))).wp X0 X.P (retQ fun _ h'=>Kept C h') h'->Kept C h':=by
      intro e' hw;rw[hres]at hw;exact hw
     cases x with
     | fall=>exact mv_end hcl.1 (fin (hres' hT') _)
     | ret=>exact fun k'=>mv_ret hcl.1 (fin (hres' hT') _)
     | exit j=>exact hT'.elim
  ·exact hT.elim
/-! ### Rules for trees -/
theorem ret_of{X:XP}{main:Bool}{R:Goroutine->LH->Prop}(c:P.funcs[f]?=some fd)(a:fd.results=#[])(i:∀ fr v h' k,fr.fn=f->Disj h'.get k->Ret P .normal fr v (h'.get.add k)->Q v h'->R (G fr cs) (h'.add k))
 (d:RetOf f cs g)(j:Q (.tuple #[]) h):R g h:=by
 obtain⟨fr,rfl,h1,h2,h3,b⟩:=d;have:=i fr (.tuple #[]) h (fun _=>none) h1 (fun _=>.inr rfl) ⟨h2,h3,b,fd,by rw[h1];exact c,?_⟩ j
 ·rw[LH.add_noneW]at this;exact this
 ·have e:results fd fr.tmps=pure (.tuple #[]):=by simp[results,a]
  rw[e];exact⟨rfl,rfl⟩
theorem fw_add(H:WgLib P L){ps:List Script}(h1:h.chans=[C,Wg,0])(h2:h.pend=[]::ps)(a:Q (.tuple #[]) { h with chans:=[C,Wg,1] }):FW (XG L) P L.add #[.pointer (some ⟨Wg,0,none⟩),.int .i64 1] h Q:=by
 refine⟨⟨addFn L,H.f_add,rfl,nm_add L⟩,fun main R b cs _ d=>?_⟩;exact b.2.2.2.1 cs h C Wg ps h1 h2 fun g c=>ret_of (X:=XG L) (main:=main) H.f_add rfl d c a
theorem fw_wait(H:WgLib P L){ps:List Script}(h1:h.chans=[C,Wg,0])(h2:h.pend=[]::ps)(h3:h.get C=some (true,.pending c e))(b:∀ (i:Nat) (v:Value),c[i]?=some v->notHole v=true\/∃ φ,[(i,φ)]∈ps)
 (f:∀ a,Joined ps c a->Q (.tuple #[]) (h.joined C a e)):FW (XG L) P L.wait #[.pointer (some ⟨Wg,0,none⟩)] h Q:=by
 refine⟨⟨waitFn L,H.f_wait,rfl,nm_wait L⟩,fun main R j cs _ l=>?_⟩;exact j.2.2.2.2.2 cs h C Wg ps c e h1 h2 h3 b fun g a k d=>ret_of (X:=XG L) (main:=main) H.f_wait rfl l k (f a d)
theorem FW.begun(g:h.chans=[])(j:h.pend=[])(k:C≠Wg)(l:h.get C=some (true,.cells c e (0,0)))(m:∀ (i:Nat) (v:Value),c[i]?=some v->notHole v=true)(n:h.get Wg=some (true,wgBlock L.tWg 0 0))
 (b:FW (XG L) P f args { h with get:=partedW h.get C Wg c e,chans:=[C,Wg,0],pend:=[[]] } Q):FW (XG L) P f args h Q :=
 ⟨b.1,fun main R d cs a o=>d.2.2.1 _ cs h C Wg c e g j k l m n (b.2 main R d cs a o)⟩
theorem spawnG{ps:List Script}{F:Nat->Bool}{cc c1:Array Value}{Q:LH->Prop}(h1:h.chans=[C,Wg,1])(h2:h.pend=[]::ps)(h3:ps.length+1<2147483646)(a:Gives C F h.get hc c cc c1 e)
 (hw:WkG P L.tWg Wg C (G (baseOf P [deferOf (.func (.func f) first cap) args]) []) ⟨hc,[],List.replicate 7 [],[(j,φ)]⟩)(n:Q { h with get:=keepC F h.get C c1 e,chans:=[C,Wg,0],pend:=[]::(ps++[[(j,φ)]]) }):SpawnW (XG L) P (.func (.func f) first cap) args h Q:=by
 intro main R o fr cs _ _ i k d p;have g:=o.2;obtain⟨b,_⟩:=g.1;subst b;refine g.2.2.2.1 fr cs (h.add k) C Wg ps (fun r=>F r&&(h.get r).isSome) hc _ c cc c1 e j φ ⟨i⟩ h1 h2 h3 ⟨?_,Qm a.have0,a.hasC,a.size,a.size1,a.part,a.rest⟩ hw ?_
 ·intro r x hr q;obtain⟨b1,l⟩:=a.reads r x hr q;refine⟨b1,?_⟩;show freezeC _ (h.get.add k) r=_;rw[Zs];exact Qm l
 ·have:=p { h with get:=keepC F h.get C c1 e,chans:=[C,Wg,0],pend:=[]::(ps++[[(j,φ)]]) } (d.of_sub fun r hr=>by
   show keepC F h.get C c1 e r=none;unfold keepC;rw[if_neg (fun m=>by subst m;rw[a.have0]at hr;cases hr)];simp only[freezeC,hr]) n
  unfold LH.add at this ⊢;simp only[keepC_add]at this ⊢;exact this
end
end Go.TM
namespace Go.Y
section
abbrev lk:Go.Conc.Lib.WgLink:={ add:=116,done:=118,wait:=120,relMerge:=151,disable:=152,enable:=153,inBubble:=154,associate:=155,fatal:=156,uOr:=157,uAdd:=158,raceRead:=159,uLoad:=160,uStore:=161,disassociate:=162,semrelease:=163,acquire:=166,isAssociated:=167,uCas:=168,raceWrite:=169,semacquire:=170,orU64:=188,addU64:=189,loadU64:=190,storeU64:=191,casU64:=192,tWgP:=251,tUP:=253,tAssoc:=254,tWg:=210,tAU:=207,tU64:=205,tUint:=258,tU32:=208,tPU32:=259,tPAU:=279,tPU64:=281,tNoCopy:=202,tANoCopy:=203,tAlign64:=204 }
theorem lib:Go.Conc.Lib.WgLib Tryz.prog lk :=
 ⟨Tryz.func116,Tryz.func118,Tryz.func120,Tryz.func151,Tryz.func152,Tryz.func153,Tryz.func154,Tryz.func155,Tryz.func156,Tryz.func157,Tryz.func158,Tryz.func159,Tryz.func160,Tryz.func161,Tryz.func162,Tryz.func163,Tryz.func166,Tryz.func167,Tryz.func168,Tryz.func169,Tryz.func170,Tryz.func188,Tryz.func189,Tryz.func190,Tryz.func191,Tryz.func192,Tryz.underlying251,Tryz.runUnderlying251,Tryz.sizeOf251,Tryz.isAgg251,Tryz.zeroValue251,Tryz.underlying253,Tryz.runUnderlying253,Tryz.sizeOf253,Tryz.isAgg253,Tryz.zeroValue253,Tryz.underlying254,Tryz.runUnderlying254,Tryz.sizeOf254,Tryz.isAgg254,Tryz.zeroValue254,Tryz.underlying210,Tryz.runUnderlying210,Tryz.sizeOf210,Tryz.isAgg210,Tryz.zeroValue210,Tryz.underlying207,Tryz.runUnderlying207,Tryz.sizeOf207,Tryz.isAgg207,Tryz.zeroValue207,Tryz.underlying205,Tryz.runUnderlying205,Tryz.sizeOf205,Tryz.isAgg205,Tryz.zeroValue205,Tryz.underlying258,Tryz.runUnderlying258,Tryz.sizeOf258,Tryz.isAgg258,Tryz.zeroValue258,Tryz.underlying208,Tryz.runUnderlying208,Tryz.sizeOf208,Tryz.isAgg208,Tryz.zeroValue208,Tryz.underlying259,Tryz.runUnderlying259,Tryz.sizeOf259,Tryz.isAgg259,Tryz.zeroValue259,Tryz.underlying279,Tryz.runUnderlying279,Tryz.sizeOf279,Tryz.isAgg279,Tryz.zeroValue279,Tryz.underlying281,Tryz.runUnderlying281,Tryz.sizeOf281,Tryz.isAgg281,Tryz.zeroValue281,Tryz.underlying0,Tryz.runUnderlying0,Tryz.sizeOf0,Tryz.isAgg0,Tryz.zeroValue0,Tryz.underlying3,Tryz.runUnderlying3,Tryz.sizeOf3,Tryz.isAgg3,Tryz.zeroValue3,Tryz.underlying4,Tryz.runUnderlying4,Tryz.sizeOf4,Tryz.isAgg4,Tryz.zeroValue4,Tryz.underlying9,Tryz.runUnderlying9,Tryz.sizeOf9,Tryz.isAgg9,Tryz.zeroValue9,Tryz.underlying20,Tryz.runUnderlying20,Tryz.sizeOf20,Tryz.isAgg20,Tryz.zeroValue20,Tryz.underlying21,Tryz.runUnderlying21,Tryz.sizeOf21,Tryz.isAgg21,Tryz.zeroValue21,by kernel_rfl,by kernel_rfl⟩
end
section
set_option linter.unusedVariables false
def n3199(U N i j n O Q:Addr):T:=.loadS N fun g b o=>.loop [.int .i64 0] (fun a=>.pi a fun e a=>.unNil a (bif decide (e<(↑b:Int)) then .need (0<=e/\e<(↑b:Int)) (.someA g fun d=>.li (d.add (e.toNat*1)) fun b=>.loadS i fun g p o=>.li j fun f=>.loadS i fun m k r=>.li j fun c=>.need (0<=c/\c<(↑k:Int)) (.someA m fun d=>.li (d.add (c.toNat*1)) fun l=>.loadS (n.add 0) fun I F s=>.loadS (n.add 1) fun J G t=>.loadS (n.add 2) fun K H u=>.li O fun x=>.li Q fun y=>.cI 119 #[.agg #[.slice I F s,.slice J G t,.slice K H u],x,y,b] fun b=>.li (d.add (c.toNat*1)) fun z=>.ne z l (.need (0<=c/\c<(↑k:Int)) (.someA m fun q=>.ne (.pointer (some (q.add (c.toNat*1)))) (.pointer (some (d.add (c.toNat*1)))) (.li j fun B=>.ne B c (.loadS i fun L C v=>.ne (.slice L C v) (.slice m k r) (.li j fun D=>.ne D f (.loadS i fun M E w=>.ne (.slice M E w) (.slice g p o) (.need (0<=f/\f<(↑p:Int)) (.someA g fun d=>.store ((d.add (f.toNat*1)).add 0) (.int .i64 (if b>l then b else l)) (.ag [.int .i64 (wrap .i64 (e+1))]))))))))))) else .bk [e])) (fun a=>.pi a fun b a=>.unNil a (.rt (.tuple #[]))) (fun a=>.pi a fun b a=>.unNil a (.rt (.tuple #[]))) fun R S=>.fail
noncomputable abbrev x3199:Ctx:={ P:=Tryz.prog,priv:=[],loops:=[{ id:=0,slots:=[(11,.int .i64)],ro:=[],outs:=[] }],joins:=[] }
theorem d3199(a b c d e f g:Addr):ftree x3199 (undefer Tryz.f117) [.pointer (some a),.pointer (some b),.pointer (some c),.pointer (some d),.pointer (some e),.pointer (some f),.pointer (some g)]=n3199 a b c d e f g:=by kernel_rfl
def rest3199:Code:=match Tryz.f117.body with|some (.seq _ b)=>b|_=>.skip
theorem w3199{Wg C:Nat}{z1 z2 z3 z4 z5 z6:Addr}{hc:Cells}{j:Nat}{φ:Value->Cells->Prop}(hT:(n3199 ⟨Wg,0,none⟩ z1 z2 z3 z4 z5 z6).wp X0 Tryz.prog (retQ fun _ h'=>Kept C h') ⟨hc,[],List.replicate 7 [],[(j,φ)]⟩) :
  WkG Tryz.prog lk.tWg Wg C (G (baseOf Tryz.prog [deferOf (.func (.func 117) #[] #[.pointer (some ⟨Wg,0,none⟩),.pointer (some z1),.pointer (some z2),.pointer (some z3),.pointer (some z4),.pointer (some z5),.pointer (some z6)]) #[]]) []) ⟨hc,[],List.replicate 7 [],[(j,φ)]⟩ :=
 worker_wk lib (X := x3199) (id := 0) (b := rest3199) (o := { dst := none, op := .defer { callee := .value (.func 118), args := #[.tmp 0], argTypes := #[210] }, type := 0, pos := "goods.go:316", after := #[], guard := none }) (rest := [.pointer (some z1), .pointer (some z2), .pointer (some z3), .pointer (some z4), .pointer (some z5), .pointer (some z6)]) rfl rfl Tryz.func117 (by kernel_rfl) (by kernel_rfl) (by kernel_rfl) rfl rfl (fun y => rfl) (by simp) (by rw [d3199]; exact hT)
end
end Go.Y
section
namespace Go.TM
def rowF(t:GTab)(e x:Int)(b:List Int):Int:=b.foldl (fun m y=>max m (levelF t e x y)) 0
def nearF(t:GTab)(e:Int)(a b:List Int):Int:=a.foldl (fun m x=>max m (rowF t e x b)) 0
variable {m e x:Int}{k:Cells}{t:GTab}{b b':List Int}{a:Addr}{C:Nat}{v:Value}
theorem Hq{α:Type}(f:α->Int):∀ (l:List α) (m:Int),m<=l.foldl (fun m y=>max m (f y)) m
 | [],m=>Int.le_refl m
 | x::l,m=>Int.le_trans (Int.le_max_left _ _) (Hq f l _)
theorem foldMax_mem'{α:Type}(f:α->Int)(x:α):∀ (l:List α) (m:Int),x∈l->f x<=l.foldl (fun m y=>max m (f y)) m
 | [],_,h=>by cases h
 | y::l,m,h=>by
  rcases List.mem_cons.1 h with rfl|h
  ·exact Int.le_trans (Int.le_max_right _ _) (Hq f l _)
  ·exact foldMax_mem' f x l _ h
theorem foldMax_mem{α:Type}(f:α->Int){x:α}{l:List α}(h:x∈l):f x<=l.foldl (fun m y=>max m (f y)) m:=foldMax_mem' f x l m h
theorem foldMax_bound'{α:Type}(f:α->Int)(k:Int):∀ (l:List α) (m:Int),m<=k->(∀ x∈l,f x<=k)->l.foldl (fun m y=>max m (f y)) m<=k
 | [],_,hm,_=>hm
 | x::l,m,hm,h=>foldMax_bound' f k l _ (Int.max_le.2 ⟨hm,h x List.mem_cons_self⟩) fun y a=>h y (List.mem_cons_of_mem _ a)
theorem foldMax_bound{α:Type}(f:α->Int){k:Int}{l:List α}(hm:m<=k)(h:∀ x∈l,f x<=k):l.foldl (fun m y=>max m (f y)) m<=k:=foldMax_bound' f k l m hm h
theorem rowF_nonneg(t:GTab)(e x:Int)(b:List Int):0<=rowF t e x b:=Hq _ b 0
theorem nearF_nonneg(t:GTab)(e:Int)(a b:List Int):0<=nearF t e a b:=Hq _ a 0
theorem rowF_mono(h:∀ y∈b,y∈b'):rowF t e x b<=rowF t e x b':=foldMax_bound _ (rowF_nonneg _ _ _ _) fun y a=>foldMax_mem _ (h y a)
theorem nearF_mono{a c:List Int}(d:∀ x∈a,x∈c)(hb:∀ y∈b,y∈b'):nearF t e a b<=nearF t e c b' :=
 foldMax_bound _ (nearF_nonneg _ _ _ _) fun x f=>Int.le_trans (rowF_mono hb) (foldMax_mem (fun x=>rowF t e x b') (d x f))
theorem rowF_take{j:Nat}{y:Int}(h:b[j]?=some y):rowF t e x (b.take (j+1))=max (rowF t e x (b.take j)) (levelF t e x y):=by
 have a:j<b.length:=(List.getElem?_eq_some_iff.1 h).1;have:b.take (j+1)=b.take j++[y]:=by
  rw[List.take_add_one,h];rfl
 unfold rowF;rw[this,List.foldl_append];rfl
def butC(k:Cells)(C:Nat):Cells:=fun r=>if r=C then none else k r
theorem Zz(h:(butC k C).cell? a=some v):a.block≠C/\k.cell? a=some v:=by
 unfold Cells.cell? butC at h;by_cases e:a.block=C
 ·rw[if_pos e]at h;cases h
 ·rw[if_neg e]at h;exact⟨e,h⟩
theorem rd_store(h:a.block=C){m:Cells}(hm:Rd k m)(d:k C=none):Rd k (m.setCell a v):=by
 intro b w hb;have c:b.block≠a.block:=by
  intro e;unfold Cells.cell? at hb;rw[e,h,d]at hb;cases hb
 have:=hm b w hb;unfold Cells.cell? Cells.setCell at *;rw[if_neg c];exact this
theorem pend_cell{i:Nat}{cc:Array Value}{e:TypeId}(h:k C=some (true,.pending cc e))(a:cc[i]?=some v)(b:notHole v=true):k.cell? ⟨C,i,none⟩=some v:=by
 unfold Cells.cell?;rw[h];simp[a,b]
theorem addr_i(C i:Nat):(⟨C,0,none⟩ : Addr).add ((i:Int).toNat*1)=⟨C,i,none⟩:=by
 rw[Int.toNat_natCast,Nat.mul_one];unfold Addr.add;simp;intro h;exact h.symm
theorem Ya(C i:Nat):((⟨C,0,none⟩ : Addr).add ((i:Int).toNat*1)).add 0=⟨C,i,none⟩:=by
 rw[addr_i];rfl
end Go.TM
namespace Go.Y
set_option linter.unusedVariables false
attribute [local irreducible] T.wp CV FWK
attribute [local irreducible] nearF rowF levelF
theorem c3203{h:LH}{p:Option Addr}{n c:Nat}{l:List Int}(d:Sl IntE 1 h.get p n l)(h0:∀ x∈l,0<=x)(z:0<n):Pu Tryz.prog 121 #[.slice p n c] h (.int .i64 (l.foldl max 0)):=by
 refine w3203 Qn ?_;have u:=d.1;have t:=d.2.1;refine Jw (fun vs h'=>vs=[]/\h=h') ?_ ?_
 ·refine Qt (fun b=>absurd (of_decide_eq_true b) (by omega)) (fun _=>?_);exact Qa ⟨rfl,rfl⟩
 rintro _ _ ⟨rfl,rfl⟩;obtain⟨f,v,g,w,j⟩:=d.at (i:=0) (by omega);unfold IntE at j;rw[show (0:Nat)*1=0 from rfl]at j;have k:0<=(0:Int)/\(0:Int)<(n:Int):=by omega
 have e:0<=f:=h0 f (List.mem_of_getElem? g);refine gZ ?_;refine Qq (fun m vs h'=>h=h'/\∃ i:Nat,vs=[.int .i64 ((l.take i).foldl max 0),.int .i64 i]/\1<=i/\i<=n/\m=n-i) ⟨rfl,1,?_,by omega,by omega,rfl⟩ ?_
 ·have:l.take 1=[f]:=by
   rw[List.take_add_one,List.take_zero,g];rfl
  rw[this];simp[List.foldl,Int.max_eq_right e]
 rintro Y m vs h' q ⟨rfl,i,rfl,r,y,rfl⟩;refine yJ (fun o=>?_) (fun o=>?_)
 ·obtain⟨x,a,f1,f2,f3⟩:=d.at (i:=i) (by omega);unfold IntE at f3;have s:0<=(i:Int)/\(i:Int)<(n:Int):=by omega
  refine gZ ?_;refine Qa (q (n-(i+1)) _ _ (by omega) ⟨rfl,i+1,?_,by omega,by omega,rfl⟩);have:l.take (i+1)=l.take i++[x]:=by rw[List.take_add_one,f1];rfl
  rw[this,List.foldl_append,Qj (by omega) (by omega)];have hm:(if x>(l.take i).foldl max 0 then x else (l.take i).foldl max 0)=max ((l.take i).foldl max 0) x:=by
   split<;>omega
  simp only[List.foldl];rw[hm];rfl
 ·refine gZ ?_;rw[List.take_of_length_le (by omega)];exact Qe ⟨rfl,rfl⟩
theorem work3199{Wg C i bm bc N:Nat}{D E F n G H:Addr}{hc k:Cells}{φ:Value->Cells->Prop}{f:TabC}{t:GTab}{e x:Int}{q:Option Addr}{b:List Int}{cc:Array Value}(z:Rd k hc)(U:k C=none)(hr:TabR k f t)(hb:Sl IntE 1 k q bm b)
 (h1:k.cell? D=some (.slice q bm bc))(h2:k.cell? E=some (.slice (some ⟨C,0,none⟩) N N))(h3:k.cell? F=some (.int .i64 i))(o:k.cell? (n.add 0)=some (.slice f.p0 f.n0 f.c0))(p:k.cell? (n.add 1)=some (.slice f.p1 f.n1 f.c1))(r:k.cell? (n.add 2)=some (.slice f.p2 f.n2 f.c2))
 (h5:k.cell? G=some (.int .i64 e))(K:k.cell? H=some (.int .i64 x))(hC:hc C=some (true,.pending cc 3))(s:cc[i]?=some (.int .i64 0))(Q:i<N)(v:φ (.int .i64 (rowF t e x b)) noCells) :
  (n3199 ⟨Wg,0,none⟩ D E F n G H).wp X0 Tryz.prog (retQ fun _ h'=>Kept C h') ⟨hc,[],List.replicate 7 [],[(i,φ)]⟩:=by
 unfold n3199;have P:=hb.1;have O:=hb.2.1;have g1:=z _ _ h1;refine gZ ?_;refine Qq (fun A vs h'=>∃ (j:Nat) (g:Array Value),vs=[.int .i64 j]/\j<=bm/\A=bm-j/\h'.todo=[(i,φ)]/\Rd k h'.get/\h'.get C=some (true,.pending g 3)/\g[i]?=some (.int .i64 (rowF t e x (b.take j))))
  ⟨0,cc,rfl,Nat.zero_le _,rfl,rfl,z,hC,by rw[s];unfold rowF;rfl⟩ ?_
 rintro Y A vs h' L ⟨j,g,rfl,hj,rfl,B,rd,h,a⟩;refine yJ (fun I=>?_) (fun I=>?_)
 ·obtain⟨y,ad,S,M,J⟩:=(hb.rd IntE.grow rd).at (i:=j) (by omega);unfold IntE at J;have R:0<=(j:Int)/\(j:Int)<(bm:Int):=by omega
  have v2:=rd _ _ h2;have v3:=rd _ _ h3;have V:=rd _ _ o;have W:=rd _ _ p;have X:=rd _ _ r;have v5:=rd _ _ h5;have v6:=rd _ _ K;have w:0<=(i:Int)/\(i:Int)<(N:Int):=by omega
  have Z:h'.get.cell? ((⟨C,0,none⟩ : Addr).add ((i:Int).toNat*1))=some (.int .i64 (rowF t e x (b.take j))):=by
   rw[addr_i];exact pend_cell h a rfl
  refine gZ ?_;refine t_gr (c3201 (hr.rd rd) e x y) ?_;rintro _ m d rfl;have l:=rd.trans (Ja d.1);have w2:=l _ _ h2;have w3:=l _ _ h3;have wC:=Qc d.1 Z;have c:=d.1 _ _ h;refine gZ ?_;refine K6 rfl ⟨.pending g 3,?_⟩ (v₀:=.int .i64 (rowF t e x (b.take j))) ?_ ?_ ?_
  ·rw[Ya];exact c
  ·rw[Ya];exact pend_cell c a rfl
  ·unfold Cells.frozen?;rw[Ya];simp only[c]
  ·rw[Ya];have u:i<g.size:=(Array.getElem?_eq_some_iff.1 a).1;refine Qa (L (bm-(j+1)) _ _ (by omega) ⟨j+1,g.setIfInBounds i (.int .i64 (rowF t e x (b.take (j+1)))),?_,by omega,rfl,?_,rd_store rfl l U,?_,?_⟩)
   ·rw[Qj (by omega) (by omega)];rfl
   ·show m.todo=_;rw[d.2.2.2];exact B
   ·show Cells.setCell _ _ _ C=_;unfold Cells.setCell;rw[if_pos rfl,c];have hm:(if levelF t e x y>rowF t e x (b.take j) then levelF t e x y else rowF t e x (b.take j))=rowF t e x (b.take (j+1)):=by
     rw[rowF_take S];split<;>omega
    rw[hm];rfl
   ·simp[u]
 ·refine gZ ?_;rw[List.take_of_length_le (by omega)]at a;refine Qe ⟨i,φ,g,3,_,B,h,a,rfl,v⟩
end Go.Y
end
section
namespace Go.TM
variable {k:Cells}{x:Bool×Obj}{C:Nat}{h:LH}{e:TypeId}{X:XP}{P:Program}{Q:Leaf->LH->Prop}{v₀ v:Value}
theorem freeze_all{r:Nat}(h:freezeC (fun _=>true) k r=some x):x.1=false:=by
 unfold freezeC at h;cases a:k r with
 | none=>rw[a]at h;cases h
 | some y=>rw[a]at h;simp at h;rw[<- h]
theorem U5:butC k C C=none:=by unfold butC;rw[if_pos rfl]
theorem butC_none'{D:Nat}(h:k C=none):butC k D C=none:=by unfold butC;split;rfl;exact h
theorem keep_rd{h:Cells}{c1:Array Value}(d:Rd k h)(f:k C=none):Rd k (keepC (fun _=>true) h C c1 e):=by
 intro a v hv;have b:a.block≠C:=by
  intro c;unfold Cells.cell? at hv;rw[c,f]at hv;cases hv
 have h1:=d a v hv;rw[<- cell_freeze (fun _=>true)]at h1;unfold Cells.cell? at *;unfold keepC;rw[if_neg b];exact h1
theorem le_rd_upd{h:Cells}(d:Rd k h)(e:k C=none):Rd k (h.upd C x):=by
 intro a v hv;have b:a.block≠C:=by
  intro c;unfold Cells.cell? at hv;rw[c,e]at hv;cases hv
 have:=d a v hv;unfold Cells.cell? at *;rw[Qk _ _ b];exact this
structure Made(h h':LH)(r:Nat)(x:Bool×Obj):Prop where
 le:h.le h'
 new:h.get r=none
 at_:h'.get r=some x
 other:∀ r',r'≠r->h'.get r'=h.get r'
theorem Made.upd{h:LH}{r:Nat}{x:Bool×Obj}(hr:h.get r=none):Made h { h with get:=h.get.upd r x } r x:=⟨Qp hr,hr,Qd _ _ _,fun b a=>Qk _ _ a⟩
theorem Yv{cs:Array Value}{k:Nat->T}(a:∀ r h',Made h h' r (true,.cells cs e (0,0))->(k r).wp X P Q h'):(T.new e cs k).wp X P Q h :=
 J1 fun r hr=>a r _ (.upd hr)
theorem t_newStM{k:Nat->T}(h1:isOne v=true)(a:∀ r h',Made h h' r (true,.cells #[v] e (0,0))->(k r).wp X P Q h') :
  (T.new e #[v₀] fun r=>T.store (Addr.add ⟨r,0,none⟩ 0) v (k r)).wp X P Q h:=t_newSt h1 fun r hr=>a r _ (.upd hr)
theorem t_new2{a w:Value}{k:Nat->Nat->T}(h1:isOne v=true)(h2:isOne w=true)
 (o:∀ r s (h':LH),h.le h'->h.get r=none->h.get s=none->r≠s->h'.get.cell? ⟨r,0,none⟩=some v->h'.get.cell? ⟨s,0,none⟩=some w->(k r s).wp X P Q h') :
  (T.new e #[v₀] fun r=>T.new e #[a] fun s=>T.store (Addr.add ⟨r,0,none⟩ 0) v (T.store (Addr.add ⟨s,0,none⟩ 0) w (k r s))).wp X P Q h:=by
 refine J1 fun r hr=>?_;refine J1 fun s g=>?_;have c:r≠s:=by
  rintro rfl;change (h.get.upd r _) r=none at g;rw[Qd]at g;cases g
 have i:h.get s=none:=by
  change (h.get.upd r _) s=none at g;rw[Qk _ _ (Ne.symm c)]at g;exact g
 have d:((h.get.upd r (true,.cells #[v₀] e (0,0))).upd s (true,.cells #[a] e (0,0))) r=some (true,.cells #[v₀] e (0,0)):=by
  rw[Qk _ _ c,Qd]
 refine K6 h1 ⟨_,d⟩ (v₀:=v₀) (by show Cells.cell? _ ⟨r,0,none⟩=_;unfold Cells.cell?;simp only[d];rfl) (by show Cells.frozen? _ ⟨r,0,none⟩=_;unfold Cells.frozen?;simp only[d];rfl) ?_;have f:(Cells.setCell ((h.get.upd r (true,.cells #[v₀] e (0,0))).upd s (true,.cells #[a] e (0,0))) ⟨r,0,none⟩ v) s=some (true,.cells #[a] e (0,0)):=by
  unfold Cells.setCell;rw[if_neg (fun n=>c n.symm),Qd]
 refine K6 h2 ⟨_,f⟩ (v₀:=a) (by show Cells.cell? (Cells.setCell _ _ _) ⟨s,0,none⟩=_;unfold Cells.cell?;rw[show (Cells.setCell ((h.get.upd r (true,.cells #[v₀] e (0,0))).upd s (true,.cells #[a] e (0,0))) (Addr.add ⟨r,0,none⟩ 0) v) (⟨s,0,none⟩ : Addr).block=_ from f];rfl)
  (by show Cells.frozen? (Cells.setCell _ _ _) ⟨s,0,none⟩=_;unfold Cells.frozen?;rw[show (Cells.setCell ((h.get.upd r (true,.cells #[v₀] e (0,0))).upd s (true,.cells #[a] e (0,0))) (Addr.add ⟨r,0,none⟩ 0) v) (⟨s,0,none⟩ : Addr).block=_ from f];rfl) ?_
 have fin:∀ b,(Cells.setCell (Cells.setCell ((h.get.upd r (true,.cells #[v₀] e (0,0))).upd s (true,.cells #[a] e (0,0))) ⟨r,0,none⟩ v) ⟨s,0,none⟩ w) b=if b=s then some (true,.cells #[w] e (0,0)) else if b=r then some (true,.cells #[v] e (0,0)) else h.get b:=by
  intro b;unfold Cells.setCell Cells.upd;by_cases l:b=s
  ·subst l;simp[Ne.symm c]
  ·by_cases m:b=r
   ·subst m;simp[c]
   ·simp[l,m]
 refine o r s _ ⟨fun b x j=>?_,rfl,rfl,rfl⟩ hr i c ?_ ?_
 ·show (Cells.setCell (Cells.setCell _ ⟨r,0,none⟩ v) ⟨s,0,none⟩ w) b=_;rw[fin,if_neg (fun e=>by subst e;rw[i]at j;cases j),if_neg (fun e=>by subst e;rw[hr]at j;cases j)];exact j
 ·show Cells.cell? (Cells.setCell (Cells.setCell _ ⟨r,0,none⟩ v) ⟨s,0,none⟩ w) ⟨r,0,none⟩=_;unfold Cells.cell?;simp only[fin,if_neg c,if_true];rfl
 ·show Cells.cell? (Cells.setCell (Cells.setCell _ ⟨r,0,none⟩ v) ⟨s,0,none⟩ w) ⟨s,0,none⟩=_;unfold Cells.cell?;simp only[fin,if_true];rfl
end Go.TM
namespace Go.Y
open Go.ConcR (wgBlock)
set_option linter.unusedVariables false
attribute [local irreducible] T.wp CV FWK
attribute [local irreducible] nearF rowF levelF
def proms(t:GTab)(e:Int)(a b:List Int)(i:Nat):List Script:=(List.range i).map fun j=>[(j,fun v _=>∃ x,a[j]?=some x/\v=.int .i64 (rowF t e x b))]
def cellsAt(n i:Nat)(cc:Array Value):Prop:=cc.size=n/\∀ j,j<n->cc[j]?=some (if j<i then .tuple #[] else .int .i64 0)
variable {n i rC r4:Nat}{t:GTab}{e:Int}{a b:List Int}{h:LH}
theorem cellsAt.step{n i:Nat}{cc:Array Value}(h:cellsAt n i cc)(c:i<n):cellsAt n (i+1) (cc.setIfInBounds i (.tuple #[])):=by
 refine⟨by rw[Array.size_setIfInBounds];exact h.1,fun j b=>?_⟩;rw[Array.getElem?_setIfInBounds];by_cases e:i=j
 ·subst e;simp[h.1,b]
 ·simp only[e,if_false];rw[h.2 j b];by_cases a:j<i
  ·rw[if_pos a,if_pos (by omega)]
  ·rw[if_neg a,if_neg (by omega)]
def oneCell(n i:Nat):Array Value:=(Array.replicate n (.tuple #[])).setIfInBounds i (.int .i64 0)
theorem oneCell_size(n i:Nat):(oneCell n i).size=n:=by simp[oneCell]
theorem oneCell_get{j:Nat}{v:Value}(h:(oneCell n i)[j]?=some v)(a:notHole v=true):j=i/\v=.int .i64 0:=by
 unfold oneCell at h;rw[Array.getElem?_setIfInBounds]at h;by_cases e:i=j
 ·subst e;rw[if_pos rfl]at h;split at h
  ·exact⟨rfl,(Option.some.inj h).symm⟩
  ·cases h
 ·rw[if_neg e,Array.getElem?_replicate]at h;split at h
  ·cases h;cases a
  ·cases h
theorem oneCell_own(a:i<n):(oneCell n i)[i]?=some (.int .i64 0):=by
 unfold oneCell;simp[a]
def NearSt(t:GTab)(e:Int)(a b:List Int)(rC r4 n i:Nat)(h:LH):Prop :=
 (i=0/\h.chans=[]/\h.pend=[]/\h.get r4=some (true,wgBlock lk.tWg 0 0)/\∃ cc,h.get rC=some (true,.cells cc 3 (0,0))/\cellsAt n 0 cc) \/
 (0<i/\h.chans=[rC,r4,0]/\h.pend=[]::proms t e a b i/\∃ cc,h.get rC=some (true,.pending cc 3)/\cellsAt n i cc)
theorem NearSt.le{t:GTab}{e:Int}{a b:List Int}{rC r4 n i:Nat}{h h':LH}(c:h.le h')(s:NearSt t e a b rC r4 n i h):NearSt t e a b rC r4 n i h':=by
 rcases s with⟨d,f,g,j,cc,k,l⟩|⟨d,f,g,cc,j,k⟩
 ·exact .inl ⟨d,by rw[c.2.1];exact f,by rw[c.2.2.1];exact g,c.1 _ _ j,cc,c.1 _ _ k,l⟩
 ·exact .inr ⟨d,by rw[c.2.1];exact f,by rw[c.2.2.1];exact g,cc,c.1 _ _ j,k⟩
theorem NearSt.ne{r:Nat}(s:NearSt t e a b rC r4 n i h)(hr:h.get r=none):r≠rC/\(i=0->r≠r4):=by
 rcases s with⟨f,g,j,c,cc,d,k⟩|⟨f,g,j,cc,c,d⟩
 ·exact⟨fun e=>(by subst e;rw[d]at hr;cases hr),fun _ e=>(by subst e;rw[c]at hr;cases hr)⟩
 ·exact⟨fun e=>(by subst e;rw[c]at hr;cases hr),fun e=>absurd e (by omega)⟩
theorem near_begun{f:FuncId}{args:Array Value}{Q:Value->LH->Prop}(c:rC≠r4)(o:NearSt t e a b rC r4 n i h)
 (d:∀ h':LH,h'.chans=[rC,r4,0]->h'.pend=[]::proms t e a b i->h'.todo=h.todo->(∃ cc,h'.get rC=some (true,.pending cc 3)/\cellsAt n i cc)->(∀ r,r≠rC->(i=0->r≠r4)->h'.get r=h.get r)->FW (XG lk) Tryz.prog f args h' Q):FW (XG lk) Tryz.prog f args h Q:=by
 rcases o with⟨rfl,h1,h2,h3,cc,l,h5⟩|⟨_,h1,h2,h3⟩
 ·refine FW.begun h1 h2 c l (fun j v hv=>?_) h3 (d _ rfl rfl rfl ⟨cc,?_,h5⟩ fun r g k=>?_)
  ·have m:j<n:=by rw[<- h5.1];exact(Array.getElem?_eq_some_iff.1 hv).1
   have:=h5.2 j m;rw[hv]at this;cases this;rfl
  ·show partedW _ _ _ _ _ rC=_;unfold partedW;rw[if_pos rfl]
  ·show partedW _ _ _ _ _ r=_;unfold partedW;rw[if_neg g,if_neg (k rfl)]
 ·exact d h h1 h2 rfl h3 fun _ _ _=>rfl
theorem c3178(u1:h.chans=[])(z1:h.pend=[]){f:TabC}(hr:TabR h.get f t)(e:Int){p q:Option Addr}{c m d:Nat}(ha:Sl IntE 1 h.get p n a)(hb:Sl IntE 1 h.get q m b)(e3:a.length<=2^20) :
  FW (XG lk) Tryz.prog 72 #[tabV f,.int .i64 e,.slice p n c,.slice q m d] h fun r h'=>Rd h.get h'.get/\h'.chans=[]/\h'.pend=[]/\h'.todo=h.todo/\r=.int .i64 (nearF t e a b):=by
 refine w3178 XG_ok ?_;have o0:=ha.1;refine Yv fun r0 h1 m0=>?_;refine Yv fun r1 h2 V=>?_;refine Yv fun r2 h3 I=>?_;refine t_makeSlice und50 inf3 rfl (by decide) (by omega) fun rC cs s0 x1 hz=>?_;have mC:=Made.upd (h:=h3) (x:=(true,.cells cs 3 (0,0))) s0;generalize ({ h3 with get:=h3.get.upd rC (true,.cells cs 3 (0,0)) }:LH)=h4 at mC ⊢;refine gZ ?_;refine t_newStM rfl fun r3 h5 W=>?_;refine Yv fun r4 h6 J=>?_;have D:=LH.le_trans m0.le (LH.le_trans V.le I.le);have w0:=LH.le_trans mC.le W.le;have S:=LH.le_trans (LH.le_trans D w0) J.le;have L:rC≠r4:=by
  rintro rfl;have:=W.le.1 _ _ mC.at_;rw[J.new]at this;cases this
 have fresh:∀ {r x},h3.get r=some x->r≠rC/\r≠r4:=by
  intro r x z;refine⟨fun e=>?_,fun e=>?_⟩
  ·subst e;rw[s0]at z;cases z
  ·subst e;have:=(LH.le_trans mC.le W.le).1 _ _ z;rw[J.new]at this;cases this
 let K:=butC (butC h6.get rC) r4;have O:h3.get.le K:=by
  intro r x z;obtain⟨n1,n2⟩:=fresh z;show (if r=r4 then none else if r=rC then none else h6.get r)=some x;rw[if_neg n2,if_neg n1];exact(LH.le_trans w0 J.le).1 _ _ z
 have KC:K rC=none:=butC_none' U5;have K4:K r4=none:=U5;have y2:r3≠rC:=by
  rintro rfl;have:=W.new;rw[mC.at_]at this;cases this
 have x2:r3≠r4:=by
  rintro rfl;have:=J.new;rw[W.at_]at this;cases this
 have a0:K r3=some (true,.cells #[.slice (some ⟨rC,0,none⟩) n n] 30 (0,0)):=by
  show (if r3=r4 then none else if r3=rC then none else h6.get r3)=_;rw[if_neg x2,if_neg y2];exact J.le.1 _ _ W.at_
 have l2:=hr.le (Cells.le_trans D.1 O);have l1:=ha.le IntE.grow (Cells.le_trans D.1 O);have o1:=hb.le IntE.grow (Cells.le_trans D.1 O);have b0:=O _ _ ((LH.le_trans V.le I.le).1 _ _ m0.at_);have b1:=O _ _ (I.le.1 _ _ V.at_);have b2:=O _ _ I.at_;have box:∀ {r i:Nat} {cs:Array Value} {el:TypeId} {v:Value},K r=some (true,.cells cs el (0,0))->cs[i]?=some v->K.cell? ⟨r,i,none⟩=some v:=by
  intro r i cs el v h1 h2;unfold Cells.cell?;simp only[h1];exact h2
 have z0:Rd K h6.get:=by
  intro B v hv;obtain⟨_,hv⟩:=Zz hv;exact(Zz hv).2
 refine Qq (fun mm vs h'=>∃ i:Nat,vs=[.int .i64 i]/\i<=n/\mm=n-i/\h'.todo=h.todo/\Rd K h'.get/\NearSt t e a b rC r4 n i h')
  ⟨0,rfl,Nat.zero_le _,rfl,S.2.2.2,z0,.inl ⟨rfl,by rw[S.2.1,u1],by rw[S.2.2.1,z1],J.at_,cs,(LH.le_trans W.le J.le).1 _ _ mC.at_,x1,fun j y=>by rw[hz j y];simp⟩⟩ ?_
 rintro Y mm vs b3 hY ⟨i,rfl,hi,rfl,y0,Z,G⟩;refine yJ (fun e1=>?_) (fun e1=>?_)
 ·obtain⟨x,ad,z,j3,e2⟩:=(l1.rd IntE.grow Z).at (i:=i) (by omega);unfold IntE at e2;have k0:0<=(i:Int)/\(i:Int)<(n:Int):=by omega
  refine gZ ?_;refine t_new2 rfl rfl fun r5 r6 u0 U j2 k2 y1 z5 z6=>?_;have z2:=Z.trans (Ja U.1);have n5:=G.ne j2;have n6:=G.ne k2;have a3:=G.le U;have u:∀ {k:Cells},(∀ r,r≠rC->(i=0->r≠r4)->k r=u0.get r)->Rd K k/\k.cell? ⟨r5,0,none⟩=some (.int .i64 i)/\k.cell? ⟨r6,0,none⟩=some (.int .i64 x):=by
   intro k hk;refine⟨fun B v hv=>?_,?_,?_⟩
   ·obtain⟨V,s⟩:=Zz hv;obtain⟨I,_⟩:=Zz s;have:=z2 B v hv;unfold Cells.cell? at *;rw[hk _ I fun _=>V];exact this
   ·unfold Cells.cell? at *;rw[hk r5 n5.1 n5.2];exact z5
   ·unfold Cells.cell? at *;rw[hk r6 n6.1 n6.2];exact z6
  refine Qz (A:=fun v h'=>v=.tuple #[]/\h'.chans=[rC,r4,1]/\h'.pend=[]::proms t e a b i/\h'.todo=h.todo/\Rd K h'.get/\h'.get.cell? ⟨r5,0,none⟩=some (.int .i64 i)/\h'.get.cell? ⟨r6,0,none⟩=some (.int .i64 x)/\∃ cc,h'.get rC=some (true,.pending cc 3)/\cellsAt n i cc)
   (near_begun L a3 fun l c9 X t9 j0 same=>fw_add lib c9 X ⟨rfl,rfl,X,by show l.todo=_;rw[t9,U.2.2.2];exact y0,(u same).1,(u same).2.1,(u same).2.2,j0⟩) ?_
  rintro _ g ⟨rfl,a1,u2,t10,M,y5,y6,cc,P,w⟩;refine gZ ?_;have o:i<n:=by omega
  have E:=w.step o;have hlen:(proms t e a b i).length=i:=by unfold proms;simp
  refine t_spawn (spawnG (C:=rC) (Wg:=r4) (F:=fun _=>true) (hc:=fun r=>if r=rC then some (true,.pending (oneCell n i) 3) else freezeC (fun _=>true) g.get r) (c:=cc) (cc:=oneCell n i) (c1:=cc.setIfInBounds i (.tuple #[])) (e:=3) (j:=i) (φ:=fun v _=>∃ x,a[i]?=some x/\v=.int .i64 (rowF t e x b)) a1 u2 (by rw[hlen];omega) ⟨?_,P,?_,?_,?_,?_,?_⟩ ?_ ?_)
  ·intro r x' a2 R;simp only[if_neg a2]at R;exact⟨freeze_all R,R⟩
  ·simp only[if_true]
  ·rw[oneCell_size,w.1]
  ·rw[Array.size_setIfInBounds]
  ·intro j v y hn;obtain⟨rfl,rfl⟩:=oneCell_get y hn;refine⟨by rw[w.2 j o,if_neg (by omega)],fun v hv=>?_⟩;rw[E.2 j o,if_pos (by omega)]at hv;cases hv;rfl
  ·intro j v y hn;have l0:j<n:=by rw[<- E.1];exact(Array.getElem?_eq_some_iff.1 y).1
   rw[E.2 j l0]at y;split at y
   ·cases y;cases hn
   ·rename_i k3;rw[w.2 j l0,if_neg (by omega)];exact y
  ·-- l3 worker
   have kb:∀ {B:Addr} {v:Value},B.block≠rC->g.get.cell? B=some v->(butC g.get rC).cell? B=some v:=by
    intro B v Q hv;unfold Cells.cell? butC at *;rw[if_neg Q];exact hv
   have H:Rd K (butC g.get rC):=by
    intro B v hv;obtain⟨_,s⟩:=Zz hv;exact kb (Zz s).1 (M B v hv)
   have q0:K.cell? (Addr.add ⟨r0,0,none⟩ 0)=some (.slice f.p0 f.n0 f.c0):=by rw[Qh];exact box b0 rfl
   have q1:K.cell? (Addr.add ⟨r0,0,none⟩ 1)=some (.slice f.p1 f.n1 f.c1):=by rw[Qh];exact box b0 rfl
   have q2:K.cell? (Addr.add ⟨r0,0,none⟩ 2)=some (.slice f.p2 f.n2 f.c2):=by rw[Qh];exact box b0 rfl
   refine w3199 (work3199 (k:=butC g.get rC) (f:=f) (t:=t) (e:=e) (x:=x) (q:=q) (b:=b) (bm:=m) (bc:=d) (N:=n) (cc:=oneCell n i) ?_ U5 (l2.rd H) (o1.rd IntE.grow H) (H _ _ (box b2 rfl)) (H _ _ (box a0 rfl)) (kb n5.1 y5) (H _ _ q0) (H _ _ q1) (H _ _ q2) (H _ _ (box b1 rfl)) (kb n6.1 y6) (by simp only[if_true]) (oneCell_own o) o ⟨x,z,rfl⟩);intro B v hv;obtain⟨Q,s⟩:=Zz hv;rw[<- cell_freeze (fun _=>true)]at s;unfold Cells.cell? at *;simp only[if_neg Q];exact s
  ·refine Qa (hY (n-(i+1)) _ _ (by omega) ⟨i+1,?_,by omega,rfl,t10,keep_rd M KC,.inr ⟨by omega,rfl,?_,_,?_,E⟩⟩)
   ·rw[Qj (by omega) (by omega)];rfl
   ·show []::(proms t e a b i++_)=_;unfold proms;rw[List.range_succ,List.map_append];rfl
   ·show keepC _ _ rC _ _ rC=_;unfold keepC;rw[if_pos rfl]
 ·refine gZ ?_;have k0:i=n:=by omega
  subst k0;refine Qz (A:=fun v h'=>v=.tuple #[]/\h'.chans=[]/\h'.pend=[]/\h'.todo=h.todo/\Rd K h'.get/\Sl IntE 1 h'.get (some ⟨rC,0,none⟩) i (a.map fun x=>rowF t e x b))
   (near_begun L G fun l c9 X t9 ⟨cc,P,w⟩ same=>fw_wait lib c9 X P (fun j v hv=>?_) fun c' hJ=>⟨rfl,rfl,rfl,by show l.todo=_;rw[t9];exact y0,?_,?_⟩) ?_
  ·have y:j<i:=by rw[<- w.1];exact(Array.getElem?_eq_some_iff.1 hv).1
   refine .inr ⟨fun v _=>∃ x,a[j]?=some x/\v=.int .i64 (rowF t e x b),?_⟩;unfold proms;exact List.mem_map.2 ⟨j,List.mem_range.2 y,rfl⟩
  ·refine le_rd_upd (fun B v hv=>?_) KC;obtain⟨V,s⟩:=Zz hv;obtain⟨I,_⟩:=Zz s;have:=Z B v hv;unfold Cells.cell? at *;rw[same _ I fun _=>V];exact this
  ·refine⟨by rw[List.length_map];exact o0,by rw[List.length_map];omega,fun j v hv=>?_⟩;rw[List.getElem?_map]at hv;cases z:a[j]? with
   | none=>rw[z]at hv;cases hv
   | some x =>
    rw[z]at hv;cases hv;have y:j<i:=by rw[o0];exact(List.getElem?_eq_some_iff.1 z).1
    obtain⟨v,g1,_,x',g2,g3⟩:=hJ.theirs j (fun v _=>∃ x,a[j]?=some x/\v=.int .i64 (rowF t e x b)) (by
     unfold proms;exact List.mem_map.2 ⟨j,List.mem_range.2 y,rfl⟩)
    rw[z]at g2;cases g2;refine⟨_,rfl,?_⟩;unfold IntE;rw[Nat.mul_one,Qh,Nat.zero_add,Qh,Nat.add_zero];show Cells.cell? (l.get.upd rC _) _=_;rw[Qs g1,g3]
  ·rintro _ l ⟨rfl,c9,X,t9,x0,o2⟩;refine gZ ?_;have y3:=x0 _ _ (box (i:=0) a0 rfl);have post:Rd h.get l.get:=(Ja (Cells.le_trans D.1 O)).trans x0;have near:(a.map fun x=>rowF t e x b).foldl max 0=nearF t e a b:=by
    unfold nearF;rw[List.foldl_map]
   refine yI (fun e0=>?_) (fun e0=>?_)
   ·have h0:i=0:=by simpa using e0
    have j1:a=[]:=List.length_eq_zero_iff.1 (by omega);refine Qe ⟨post,c9,X,t9,?_⟩;rw[<- near,j1];rfl
   ·have h0:¬ i=0:=by simpa using e0
    refine gZ ?_;refine t_pu (c3203 o2 (fun v hv=>?_) (by omega)) ?_
    ·obtain⟨x,_,rfl⟩:=List.mem_map.1 hv;exact rowF_nonneg _ _ _ _
    refine gZ ?_;rw[near];exact Qe ⟨post,c9,X,t9,rfl⟩
end Go.Y
end
section
namespace Go.TM
variable {P:Program} {E:Halt->Cells->Prop} {κ:Type} [DecidableEq κ] {enc:κ->Value}
def updO(f:κ->Option Value)(k:κ)(v:Value):κ->Option Value:=fun x=>if x=k then some v else f x
structure MapO(enc:κ->Value)(es:Array MapEntry)(f:κ->Option Value):Prop where
 key:∀ e∈es.toList,∃ k,e.key=enc k/\f k=some e.val
 has:∀ k v,f k=some v->∃ e∈es.toList,e.key=enc k
 once:(es.toList.map (·.key)).Nodup
variable {es:Array MapEntry}{kt t et:TypeId}{h:LH}{K:Value->T}{c m:Nat}{kv v:Value}
omit [DecidableEq κ] in
theorem MapO.nil:MapO enc #[] (fun _=>none):=⟨fun e he=>by simp at he,fun k v h=>by simp at h,by simp⟩
omit [DecidableEq κ] in
theorem MapO.none{es:Array MapEntry}{f:κ->Option Value}{k:κ}(M:MapO enc es f)(a:∀ e∈es.toList,e.key≠enc k):f k=none:=by
 cases h:f k with
 | none=>rfl
 | some v =>
  obtain⟨e,he,b⟩:=M.has k v h;exact absurd b (a e he)
theorem nodup_ix{α:Type}{l:List α}(h:l.Nodup){i j:Nat}{x:α}(c:l[i]?=some x)(d:l[j]?=some x):i=j:=by
 obtain⟨h1,h2⟩:=List.getElem?_eq_some_iff.1 c;obtain⟨h3,a⟩:=List.getElem?_eq_some_iff.1 d;have b:=List.pairwise_iff_getElem.1 h;rcases Nat.lt_trichotomy i j with e|e|e
 ·exact absurd (h2.trans a.symm) (b i j h1 h3 e)
 ·exact e
 ·exact absurd (a.trans h2.symm) (b j i h3 h1 e)
theorem modify_at{f:MapEntry->MapEntry}(j:Nat):∀ i:Nat,(es.modify j f).toList[i]?=if i=j then (es.toList[i]?).map f else es.toList[i]?:=by
 intro i;rw[Array.getElem?_toList,Array.getElem?_modify,Array.getElem?_toList];by_cases a:j=i
 ·subst a;simp
 ·rw[if_neg a,if_neg (Ne.symm a)]
theorem MapO.modify(inj:∀ a b,enc a=enc b->a=b){es:Array MapEntry}{f:κ->Option Value}(M:MapO enc es f){j:Nat}{n:MapEntry}{k:κ}{v:Value}(he:es.toList[j]?=some n)(o:n.key=enc k) :
  MapO enc (es.modify j fun e=>{ e with key:=enc k,val:=v }) (updO f k v):=by
 have keys:(es.modify j fun e=>{ e with key:=enc k,val:=v }).toList.map (·.key)=es.toList.map (·.key):=by
  refine List.ext_getElem? fun i=>?_;simp only[List.getElem?_map];rw[modify_at];by_cases e:i=j
  ·subst e;rw[if_pos rfl,he];simp[o]
  ·rw[if_neg e]
 refine⟨fun c h=>?_,fun k' q h'=>?_,by rw[keys];exact M.once⟩
 ·obtain⟨i,l⟩:=List.mem_iff_getElem?.1 h;rw[modify_at]at l;by_cases e:i=j
  ·subst e;rw[if_pos rfl,he]at l;cases l;exact⟨k,rfl,by simp[updO]⟩
  ·rw[if_neg e]at l;obtain⟨k',h1,h2⟩:=M.key c (List.mem_of_getElem? l);refine⟨k',h1,?_⟩;have p:k'≠k:=by
    rintro rfl;exact e (nodup_ix M.once (i:=i) (j:=j) (x:=enc k') (by rw[List.getElem?_map,l];simp[h1]) (by rw[List.getElem?_map,he];simp[o]))
   simp[updO,p,h2]
 ·have d:∀ c∈es.toList,∃ g∈(es.modify j fun e=>{ e with key:=enc k,val:=v }).toList,g.key=c.key:=fun c h=>by
   have:c.key∈es.toList.map (·.key):=List.mem_map.2 ⟨c,h,rfl⟩;rw[<- keys]at this;obtain⟨g,h3,m⟩:=List.mem_map.1 this;exact⟨g,h3,m⟩
  unfold updO at h';split at h'
  ·rename_i e;subst e;obtain⟨g,h3,m⟩:=d n (List.mem_of_getElem? he);exact⟨g,h3,m.trans o⟩
  ·obtain⟨c,h1,h2⟩:=M.has k' q h';obtain⟨g,h3,m⟩:=d c h1;exact⟨g,h3,m.trans h2⟩
theorem MapO.push(inj:∀ a b,enc a=enc b->a=b){es:Array MapEntry}{c:Nat}{f:κ->Option Value}(M:MapO enc es f){k:κ}{v:Value}(g:∀ e∈es.toList,e.key≠enc k) :
  MapO enc (es.push { key:=enc k,val:=v,born:=c }) (updO f k v):=by
 refine⟨fun h d=>?_,fun k' l h'=>?_,?_⟩
 ·rw[Array.toList_push,List.mem_append,List.mem_singleton]at d;rcases d with d|rfl
  ·obtain⟨k',h1,h2⟩:=M.key h d;have i:k'≠k:=by rintro rfl;exact g h d h1
   exact⟨k',h1,by simp[updO,i,h2]⟩
  ·exact⟨k,rfl,by simp[updO]⟩
 ·unfold updO at h';split at h'
  ·rename_i e;subst e;exact⟨_,by rw[Array.toList_push,List.mem_append,List.mem_singleton];exact .inr rfl,rfl⟩
  ·obtain⟨h,h1,h2⟩:=M.has k' l h';exact⟨h,by rw[Array.toList_push];exact List.mem_append_left _ h1,h2⟩
 ·rw[Array.toList_push,List.map_append,List.nodup_append];refine⟨M.once,by simp,fun a j b hb=>?_⟩;obtain⟨e,he,rfl⟩:=List.mem_map.1 j;simp at hb;subst hb;exact g e he
omit [DecidableEq κ] in
theorem MapO.keys{f:κ->Option Value}(M:MapO enc es f)(a:∀ x,FKey P kt (enc x)):∀ e∈es.toList,FKey P kt e.key:=fun e he=>by
 obtain⟨x,h1,_⟩:=M.key e he;rw[h1];exact a x
variable {X:XP} {Q:Leaf->LH->Prop}
omit [DecidableEq κ] in
theorem t_getO{s b:Nat}{z:Value}{f:κ->Option Value}{ok:Bool}(k:κ)(g:kv=enc k)(inj:∀ a b,enc a=enc b->a=b)(hu:P.underlying t=some (.map kt et))(o:(P.info? et).map (fun i=>(i.size,i.bytes,i.zero))=some (s,b,some z))
 (hm:h.get m=some (true,.map es c))(M:MapO enc es f)(l:∀ x,FKey P kt (enc x))(h1:∀ v,f k=some v->(K (if ok then .tuple #[v,.bool true] else v)).wp X P Q h)(h2:f k=none->(K (if ok then .tuple #[z,.bool false] else z)).wp X P Q h) :
  (T.sem false (Instr.lookup t (.map (some m)) kv ok) K).wp X P Q h:=by
 subst g;refine J3 (A:=fun v h'=>h'=h.get/\(K v).wp X P Q h) (lwp_lookupK hu o ⟨c,hm⟩ (l k) (M.keys l) (fun e he d=>?_) fun j=>⟨rfl,h2 (M.none j)⟩) (by rintro v h' ⟨rfl,hw⟩;exact hw);obtain⟨k',h3,n⟩:=M.key e he;have:k'=k:=inj _ _ (h3.symm.trans d);subst this;exact⟨rfl,h1 _ n⟩
theorem lwp_putO{h:Cells}{Q:Unit->Cells->Prop}{f:κ->Option Value}{k:κ}(inj:∀ a b,enc a=enc b->a=b)(hu:P.underlying t=some (.map kt et))(hm:h m=some (true,.map es c))(M:MapO enc es f)(i:∀ x,FKey P kt (enc x))
 (o:∀ d p,MapO enc d (updO f k v)->Q () (h.upd m (true,.map d p))):Qi P (Instr.mapUpdate t (.map (some m)) (enc k) v) Q E h:=by
 unfold Instr.mapUpdate;rw[lwp_bind,Qg hu];simp only[lwp_bind];refine⟨_,_,hm,trivial,?_⟩;show Qi P (_ >>= _) _ E h;rw[lwp_bind];refine Gt (i k) ?_;rw[lwp_bind];refine Hm (i k) (M.keys i) (fun j e he g=>?_) fun n=>?_
 ·have l:es[j]?=some e:=by rw[<- Array.getElem?_toList];exact he
  simp only[lwp_bind,Instr.keyThatStays,l,Option.map_some,Option.getD_some,g,sameBits_flat (i k),if_true,Ql];exact⟨⟨_,hm,trivial⟩,o _ _ (M.modify inj he g)⟩
 ·exact⟨⟨_,hm,trivial⟩,o _ _ (M.push inj n)⟩
theorem t_putO{f:κ->Option Value}(k:κ)(g:kv=enc k)(inj:∀ a b,enc a=enc b->a=b)(hu:P.underlying t=some (.map kt et))(hm:h.get m=some (true,.map es c))(M:MapO enc es f)(j:∀ x,FKey P kt (enc x))
 (l:∀ d e,MapO enc d (updO f k v)->(K (.tuple #[])).wp X P Q { h with get:=h.get.upd m (true,.map d e) }):(T.sem false (Sem.bind (Instr.mapUpdate t (.map (some m)) kv v) fun _=>pure (.tuple #[])) K).wp X P Q h:=by
 subst g;exact J3 (A:=fun w h'=>w=.tuple #[]/\(K (.tuple #[])).wp X P Q { h with get:=h' }) (Q0 _ _ (lwp_putO inj hu hm M j fun d e i=>by rw[Ql];exact⟨rfl,l d e i⟩)) (by rintro w h' ⟨rfl,hw⟩;exact hw)
end Go.TM
end
