/- treaty: what is printed is parsed as it was: TreatyBack -/
import Derived.Test.YtpkjbclajflhbaaGreatDoorM6
set_option linter.all false
noncomputable section
open Go Go.Conc Go.TM Go.Proofs
set_option maxRecDepth 100000
open Go.IntKind (wrap)
section
namespace Go.TM
variable {P:Program} {X:XP} {Q:Leaf->LH->Prop}
inductive Chain{S:Type}(nx:S->List Value->S->Prop)(s₀:S):List Int->S->Prop
 | nil:Chain nx s₀ [] s₀
 | snoc {l:List Int} {s s':S} {v:Int}:Chain nx s₀ l s->nx s [.int .i64 v] s'->Chain nx s₀ (l++[v]) s'
variable {es:Array MapEntry}{c:Nat}{l acc:List Int}
theorem chain_keys(k:Keys es c l){seen:Array Nat}(h:Chain (NextKey es) #[] acc seen) :
  ∃ E:List MapEntry,(∀ e∈E,e∈es.toList)/\acc.map (Value.int .i64)=E.map (·.key)/\seen.toList=E.map (·.born)/\(E.map (·.born)).Nodup:=by
 induction h with
 | nil=>exact⟨[],by simp,rfl,rfl,List.nodup_nil⟩
 | snoc h m n =>
  obtain⟨E,h1,h2,h3,j⟩:=n;obtain⟨e,he,hb,g,rfl⟩:=m;refine⟨E++[e],fun a d=>?_,?_,?_,?_⟩
  ·rcases List.mem_append.1 d with d|d
   ·exact h1 a d
   ·simp at d;subst d;exact he
  ·simp only[List.cons.injEq,and_true]at g;rw[List.map_append,List.map_append,h2];simp[g]
  ·simp[h3]
  ·rw[List.map_append];refine List.nodup_append.2 ⟨j,by simp,fun a d b f i=>?_⟩;simp at f;subst f;subst i;rw[h3]at hb;exact hb d
theorem nodup_key(k:Keys es c l):∀ e∈es.toList,∀ d∈es.toList,e.key=d.key->e.born=d.born:=by
 have n:(es.toList.map (·.key)).Nodup:=by
  rw[k.keys];rw[List.nodup_iff_pairwise_ne,List.pairwise_map];exact(List.nodup_iff_pairwise_ne.1 k.nodup).imp fun g he=>g (by cases he;rfl)
 intro e he d f heq;obtain⟨i,h,b⟩:=List.getElem_of_mem he;obtain⟨j,m,a⟩:=List.getElem_of_mem f;have:=(List.getElem_inj (xs:=es.toList.map (·.key)) (i:=i) (j:=j) (h₀:=by simpa using h) (h₁:=by simpa using m) n).1 (by simp[b,a,heq]);subst this;rw[b]at a;rw[a]
theorem chain_done(k:Keys es c l){seen:Array Nat}(h:Chain (NextKey es) #[] acc seen)(s:AllSeen es seen):acc.Nodup/\∀ v,v∈acc↔v∈l:=by
 obtain⟨E,h1,h2,h3,p⟩:=chain_keys k h;refine⟨?_,fun v=>?_⟩
 ·have h5:(acc.map (Value.int .i64)).Nodup:=by
   rw[h2,List.nodup_iff_pairwise_ne,List.pairwise_map];rw[List.nodup_iff_pairwise_ne,List.pairwise_map]at p;exact(List.Pairwise.and_mem.1 p).imp fun ⟨r,hb,a⟩ n=>a (nodup_key k _ (h1 _ r) _ (h1 _ hb) n)
  rw[List.nodup_iff_pairwise_ne,List.pairwise_map]at h5;rw[List.nodup_iff_pairwise_ne];exact h5.imp fun a e=>a (by rw[e])
 ·constructor
  ·intro hv;have:Value.int .i64 v∈acc.map (Value.int .i64):=List.mem_map.2 ⟨v,hv,rfl⟩;rw[h2]at this;obtain⟨e,he,n⟩:=List.mem_map.1 this;have d:e.key∈es.toList.map (·.key):=List.mem_map.2 ⟨e,h1 e he,rfl⟩;rw[k.keys,n]at d;obtain⟨w,hw,b⟩:=List.mem_map.1 d;cases b;exact hw
  ·intro hv;have:Value.int .i64 v∈l.map (Value.int .i64):=List.mem_map.2 ⟨v,hv,rfl⟩;rw[<- k.keys]at this;obtain⟨e,he,n⟩:=List.mem_map.1 this;have d:=s e he;rw[h3]at d;obtain⟨b,f,hb⟩:=List.mem_map.1 d;have o:b=e:=by
    obtain⟨i,t,g⟩:=List.getElem_of_mem (h1 b f);obtain⟨j,u,m⟩:=List.getElem_of_mem he;have:=(List.getElem_inj (xs:=es.toList.map (·.born)) (i:=i) (j:=j) (h₀:=by simpa using t) (h₁:=by simpa using u) k.born).1 (by simp[g,m,hb]);subst this;rw[<- g,<- m]
   subst o;have:b.key∈E.map (·.key):=List.mem_map.2 ⟨b,f,rfl⟩;rw[<- h2,n]at this;obtain⟨w,hw,q⟩:=List.mem_map.1 this;cases q;exact hw
def toCome(es:Array MapEntry)(seen:Array Nat):Nat:=(es.toList.filter fun e=>!seen.toList.contains e.born).length
theorem filter_less{α:Type}{p q:α->Bool}:∀ {l:List α},(∀ x∈l,q x=true->p x=true)->(∃ x∈l,p x=true/\q x=false)->(l.filter q).length<(l.filter p).length
 | [],_,⟨x,c,_⟩=>by simp at c
 | a::l,h1,⟨x,c,h2,h3⟩=>by
  have hle:∀ (l:List α),(∀ x∈l,q x=true->p x=true)->(l.filter q).length<=(l.filter p).length:=by
   intro l
   induction l with
   | nil=>intro _;simp
   | cons b l e =>
    intro h;have:=e fun x c=>h x (by simp[c]);rw[List.filter_cons,List.filter_cons];cases hb:q b with
    | true=>rw[h b (by simp) hb];simpa using this
    | false=>cases p b<;>simp<;>omega
  rw[List.filter_cons,List.filter_cons];rcases List.mem_cons.1 c with rfl|c
  ·rw[h2,h3];have:=hle l fun x c=>h1 x (by simp[c]);simp;omega
  ·have:=filter_less (l:=l) (fun y d=>h1 y (by simp[d])) ⟨x,c,h2,h3⟩;cases hb:q a with
   | true=>rw[h1 a (by simp) hb];simpa using this
   | false=>cases p a<;>simp<;>omega
theorem toCome_less{seen:Array Nat}{xs:List Value}{a:Array Nat}(h:NextKey es seen xs a):toCome es a<toCome es seen:=by
 obtain⟨e,he,hb,_,rfl⟩:=h;refine filter_less (fun x _ b=>?_) ⟨e,he,?_,?_⟩
 ·simp at b ⊢;exact b.1
 ·simpa using hb
 ·simp
end Go.TM
namespace Go.Y.Tre
open Go.TM.Tr
attribute [local irreducible] T.wp CV FWK
variable {h:LH}{m c:Nat}{es:Array MapEntry}{b:Bool}{l:List Int}{seq:Value}
theorem c2081(m:Nat):Gr Tryz.prog 163 #[.map (some m)] h fun r h'=>∃ a,r=.func (.func 192) #[] #[.pointer (some a)]/\h'.get.cell? a=some (.map (some m)):=by
 refine w2081 Qr ?_;refine Z5 fun r hr=>?_;exact Qn ⟨Q4 hr,_,rfl,Q5 rfl⟩
theorem hands2093{X:XP}(z:XOK X){h₀:LH}{G:Addr}(P:h₀.get.cell? G=some (.map (some m)))(hm:h₀.get m=some (b,.map es c))(k:Keys es c l) :
  HandsG X Tryz.prog (.func (.func 192) #[] #[.pointer (some G)]) h₀ (NextKey es) (AllSeen es) #[]:=by
 intro y J E M L g h hle v;refine Hs z (by rfl) (?_:FW X Tryz.prog 192 #[y,.pointer (some G)] h _);refine w2093 z ?_;have F:=Qm hle.1 P;refine gL4 F ?_;refine t_range undMap (hle.1 _ _ hm) fun r hr=>?_;refine gZ ?_;have D:({ h with get:=h.get.upd r (true,.mapIter (some m) c #[] c) }:LH)={ h with get:=h.get.add (oneC r (.mapIter (some m) c #[] c)) }:=by
  have:h.get.upd r (true,.mapIter (some m) c #[] c)=h.get.add (oneC r (.mapIter (some m) c #[] c)):=by
   funext a;unfold Cells.upd Cells.add oneC;by_cases e:a=r
   ·subst e;simp[hr]
   ·simp[e];cases h.get a<;>rfl
  rw[this]
 rw[D];refine Jc (fun K vs h'=>∃ (seen:Array Nat) (hb:LH),vs=[]/\K=toCome es seen/\h'={ hb with get:=hb.get.add (oneC r (.mapIter (some m) c seen c)) }/\Disj hb.get (oneC r (.mapIter (some m) c seen c))/\h₀.le hb/\J seen hb)
  ⟨#[],h,rfl,rfl,rfl,J1 hr,hle,v⟩ ?_
 rintro Y K vs _ N ⟨seen,hb,rfl,rfl,rfl,H,d,j⟩;have f:=Jt H;refine gZ ?_;refine t_next (m:=m) (r:=r) (c:=c) (es:=es) (seen:=seen) (b:=b) (Jj f) (Qh (d.1 _ _ hm)) k.lt (fun o=>?_) fun e he C=>?_
 ·refine yF ?_;refine gZ ?_;refine Qn ⟨⟨fun a x A=>Qh (d.1 a x A),d.2⟩,.inl ⟨seen,o,?_⟩⟩;exact M seen hb _ j H
 ·rw[Ze f];have t:Disj hb.get (oneC r (.mapIter (some m) c (seen.push e.born) c)):=J1 f;refine yT ?_;refine gZ ?_;refine t_entry (m:=m) (r:=r) (c:=c) (es:=es) (seen:=seen) (e:=e) (b:=b) (Jj f) (Qh (d.1 _ _ hm)) he k.born ?_;obtain⟨I,p⟩ : ∃ n:Int,e.key=.int .i64 n:=by
   have q:e.key∈es.toList.map (·.key):=List.mem_map.2 ⟨e,he,rfl⟩;rw[k.keys]at q;obtain⟨n,_,O⟩:=List.mem_map.1 q;exact⟨n,O.symm⟩
  rw[p];refine gZ ?_;have s:NextKey es seen [.int .i64 I] (seen.push e.born):=⟨e,he,C,by rw[p],rfl⟩
  have B:=CV.frame z (g seen hb [.int .i64 I] (seen.push e.born) d s j) t;refine J3 B ?_;rintro bv _ ⟨h3,d3,rfl,i,⟨rfl,w⟩|⟨rfl,u⟩⟩
  ·refine yF ?_;exact Qj (N _ _ _ (toCome_less s) ⟨_,h3,rfl,rfl,rfl,d3,i,w⟩)
  ·refine yT ?_;refine gZ ?_;exact Qn ⟨⟨fun a x A=>Qh (i.1 a x A),i.2⟩,.inr (L h3 _ u d3)⟩
theorem c2100{S:Type}{nx:S->List Value->S->Prop}{fin:S->Prop}{a:S}(μ:S->Nat)(e:∀ s xs d,nx s xs d->μ d<μ s)(hint:∀ s xs d,nx s xs d->∃ v,xs=[.int .i64 v])(hm:μ a<=1000)(k:HandsG X0 Tryz.prog seq h nx fin a) :
  Gr Tryz.prog 216 #[.slice none 0 0,seq] h fun r h'=>∃ p n c s acc,fin s/\Chain nx a acc s/\r=.slice p n c/\acc.length<=μ a/\Growing IntEnc 3 1 h.get h'.get p n c acc:=by
 refine w2100 Qr ?_;refine t_eachG μ e (LH.le_refl h) k (fun s vs h'=>∃ p n c acc,vs=[.slice p n c]/\Chain nx a acc s/\acc.length+μ s<=μ a/\Growing IntEnc 3 1 h.get h'.get p n c acc)
  ⟨none,0,0,[],rfl,.nil,by simp,Growing.nil⟩ ?_ ?_
 ·rintro s vs h' m hle ⟨p,n,c,acc,rfl,b,hlen,g⟩;refine gZ ?_;exact Qn ⟨hle,p,n,c,s,acc,m,b,rfl,by omega,g⟩
 ·rintro s xs d vs h' i hle ⟨p,n,c,acc,rfl,b,hlen,g⟩ Y l;obtain⟨v,rfl⟩:=hint s xs d i;have o:=e _ _ _ i;have q:=g.count IntEnc.len (by omega);refine gZ ?_;refine G1 v [.int .i64 v] rfl rfl und50 inf3 rfl (by omega) (by decide) (by kernel_rfl) rfl (by simp;rfl) (by omega) g hle rfl ?_;intro t c' h3 f _ j;refine gZ ?_;exact Jq f (l _ _ f ⟨t,n+1,c',acc++[v],rfl,b.snoc i,by simp;omega,j⟩)
theorem c2091{S:Type}{nx:S->List Value->S->Prop}{fin:S->Prop}{a:S}(μ:S->Nat)(d:∀ s xs b,nx s xs b->μ b<μ s)(hint:∀ s xs b,nx s xs b->∃ v,xs=[.int .i64 v])(hm:μ a<=1000)(g:HandsG X0 Tryz.prog seq h nx fin a) :
  Gr Tryz.prog 190 #[seq] h fun r h'=>∃ p n c s acc,fin s/\Chain nx a acc s/\r=.slice p n c/\acc.length<=μ a/\Growing IntEnc 3 1 h.get h'.get p n c acc:=by
 refine w2091 Qr ?_;refine t_gr (c2100 μ d hint hm g) ?_;rintro _ h1 e ⟨p,n,c,s,acc,h2,h3,rfl,f,h5⟩;refine gZ ?_;exact Qn ⟨e,p,n,c,s,acc,h2,h3,rfl,f,h5⟩
theorem rows_reads{vs:List Value}(r:Go.TM.Rows IntEnc vs l):vs=l.map (Value.int .i64):=by
 induction r with
 | nil=>rfl
 | snoc r he a=>rw[he,a];simp
theorem grown{h₀ h:Cells}{p:Option Addr}{n:Nat}(g:Growing IntEnc 3 1 h₀ h p n c l)(u:l≠[]):∃ r cs,p=some ⟨r,0,none⟩/\h=h.upd r (true,.cells cs 3 (0,0))/\h₀ r=none/\n=l.length/\n<=c/\cs.size=c*1/\Reads cs l /\
  ∀ d f,d.size=cs.size->Reads d f->f.length=l.length->Growing IntEnc 3 1 h₀ (h.upd r (true,.cells d 3 (0,0))) p n c f:=by
 have A:=g.count IntEnc.len (by omega);obtain⟨vs,⟨h1,h2⟩,h3⟩:=g.row;have z:=rows_reads h3;rcases h2 with⟨_,h2,_⟩|⟨r,cs,rfl,hr,m,s,hv⟩
 ·exfalso;apply u;exact List.eq_nil_of_length_eq_zero (by omega)
 ·refine⟨r,cs,rfl,?_,g.new _ rfl,A,s,m,?_,?_⟩
  ·funext a;unfold Cells.upd;by_cases e:a=r
   ·subst e;simp[hr]
   ·simp[e]
  ·intro i y t;refine hv i _ ?_;rw[z,List.getElem?_map,t];rfl
  ·intro d f x w hlen;have rows:∀ l:List Int,Go.TM.Rows IntEnc (l.map (Value.int .i64)) l:=by
    intro l;have:∀ (k:Nat) (l:List Int),l.length=k->Go.TM.Rows IntEnc (l.map (Value.int .i64)) l:=by
     intro k
     induction k with
     | zero=>intro l q;rw[List.eq_nil_of_length_eq_zero q];exact .nil
     | succ k B =>
      intro l q;obtain⟨a,b,rfl⟩ : ∃ a b,l=a++[b]:=⟨l.dropLast,l.getLast (by intro e;subst e;simp at q),(List.dropLast_concat_getLast _).symm⟩
      rw[List.map_append];exact Go.TM.Rows.snoc (B a (by simp at q;exact q)) rfl
    exact this _ l rfl
   refine⟨⟨f.map (Value.int .i64),⟨by rw[List.length_map];omega,.inr ⟨r,d,rfl,Qk _ _ _,by rw[x];exact m,s,fun j v o=>?_⟩⟩,rows f⟩,g.new⟩;rw[List.getElem?_map]at o;cases t:f[j]? with
   | none=>rw[t]at o;cases o
   | some y=>rw[t]at o;cases o;exact w j y t
theorem c2059(hm:h.get m=some (b,.map es c))(k:Keys es c l)(D:l≠[])(W:l.length<=12) :
  Gr Tryz.prog 114 #[.map (some m)] h fun r h'=>∃ p n c acc,r=.slice p n c/\Sl IntE 1 h'.get p n acc/\n<=c/\acc.Pairwise (·<·)/\∀ v,v∈acc↔v∈l:=by
 refine w2059 Qr ?_;refine t_gr (c2081 m) ?_;rintro _ h1 w ⟨S,rfl,Q⟩;have hlen:es.toList.length=l.length:=by
  have:=congrArg List.length k.keys;simpa using this
 have hu:toCome es #[]<=12:=by
  unfold toCome;have:=List.length_filter_le (fun e:MapEntry=>!(#[]:Array Nat).toList.contains e.born) es.toList;omega
 have sorted:Gr Tryz.prog 162 #[.func (.func 192) #[] #[.pointer (some S)]] h1 fun r h'=>∃ p n c acc,r=.slice p n c/\Sl IntE 1 h'.get p n acc/\n<=c/\acc.Pairwise (·<·)/\∀ v,v∈acc↔v∈l:=by
  refine w2080 Qr ?_;refine t_gr (c2091 (toCome es) (fun s xs R h=>toCome_less h) ?_ (by omega) (hands2093 Qr Q (w.1 _ _ hm) k)) ?_
  ·rintro s xs R ⟨e,he,_,rfl,_⟩;have:e.key∈es.toList.map (·.key):=List.mem_map.2 ⟨e,he,rfl⟩;rw[k.keys]at this;obtain⟨v,_,hv⟩:=List.mem_map.1 this;exact⟨v,by rw[hv]⟩
  ·rintro _ h2 f ⟨p,n,c,s,acc,P,A,rfl,N,g⟩;obtain⟨C,i⟩:=chain_done k A P;have q:acc≠[]:=by
    rintro rfl;apply D;exact List.eq_nil_iff_forall_not_mem.2 fun v hv=>by simpa using (i v).2 hv
   obtain⟨r,cs,rfl,J,E,rfl,B,O,F,o⟩:=grown g q;refine gZ ?_;have H:h2={ h2 with get:=h2.get.upd r (true,.cells cs 3 (0,0)) }:=by
    obtain⟨V,U,b2,d2⟩:=h2;simp only[LH.mk.injEq,and_self,and_true];exact J
   rw[H];refine Jm (c2092 F (by omega)) ?_;rintro _ _ ⟨rfl,y,K,I,u,d,G,rfl⟩;refine gZ ?_;have g':=o y K I u d.length_eq;refine Qn ⟨?_,_,_,c,K,rfl,g'.sl IntEnc.len (by omega) IntEnc.e (by rw[d.length_eq];omega),B,?_,fun v=>by rw[d.mem_iff,i]⟩
   ·refine⟨fun a x z=>?_,f.2⟩;have t:a≠r:=by rintro rfl;rw[E]at z;cases z
    show Cells.upd _ _ _ a=_;rw[Qp _ _ t];exact f.1 a x z
   ·have j:K.Nodup:=d.nodup_iff.2 C;rw[List.nodup_iff_pairwise_ne]at j;exact(G.and j).imp fun ⟨h1,h2⟩=>by omega
 refine t_gr sorted ?_;rintro _ h2 f ⟨p,n,c',acc,rfl,h3,L,h5,M⟩;refine gZ ?_;exact Qn ⟨LH.le_trans w f,p,n,c',acc,rfl,h3,L,h5,M⟩
end Go.Y.Tre
end
section
namespace Go.TM
theorem Uh:∀ {l m:List Int},l.Nodup->(∀ v∈l,v∈m)->l.length<=m.length
 | [],m,_,_=>Nat.zero_le _
 | a::l,m,e,d=>by
  have c:=d a (by simp);have b:=List.nodup_cons.1 e;have:=Uh (l:=l) (m:=m.erase a) b.2 fun v hv=>by
   rw[List.mem_erase_of_ne]
   ·exact d v (by simp[hv])
   ·rintro rfl;exact b.1 hv
  have h2:=List.length_erase_of_mem c;have h3:=List.length_pos_of_mem c;simp only[List.length_cons];omega
def SpE(h:Cells)(a:Addr)(s:Tr.Sp):Prop:=h.cell? (a.add 0)=some (.int .i64 s.first)/\h.cell? (a.add 1)=some (.int .i64 s.last)
def SpEnc(s:Tr.Sp)(ws:List Value):Prop:=ws=[.int .i64 s.first,.int .i64 s.last]
theorem SpE.grow:Grow SpE:=fun _ _ _ _ a h=>⟨a _ _ h.1,a _ _ h.2⟩
theorem SpEnc.len:∀ d ws,SpEnc d ws->ws.length=2:=by rintro d _ rfl;rfl
theorem SpEnc.e{h':Cells}:∀ a d ws,SpEnc d ws->(∀ (j:Nat) w,ws[j]?=some w->h'.cell? (a.add j)=some w)->SpE h' a d:=by
 rintro a d _ rfl hc;exact⟨hc 0 _ rfl,hc 1 _ rfl⟩
theorem Rows.last{α:Type}{Enc:α->List Value->Prop}{vs:List Value}{l:List α}{x:α}(r:Rows Enc vs (l++[x])):∃ us ws,vs=us++ws/\Rows Enc us l/\Enc x ws:=by
 generalize he:l++[x]=m at r;cases r with
 | nil=>simp at he
 | snoc r a =>
  rename_i us b y ws;have:=List.append_inj' he rfl;obtain⟨rfl,h2⟩:=this;simp at h2;subst h2;exact⟨us,ws,rfl,r,a⟩
theorem Growing.lastSp{el:TypeId}{h₀ h:Cells}{p:Option Addr}{n c:Nat}{out:List Tr.Sp}{s:Tr.Sp}(g:Growing SpEnc el 2 h₀ h p n c (out++[s])) :
  ∃ r cs,p=some ⟨r,0,none⟩/\h r=some (true,.cells cs el (0,0))/\h₀ r=none/\n=out.length+1/\2*out.length+1<cs.size/\cs[2*out.length+1]?=some (.int .i64 s.last) /\
   ∀ v:Int,Growing SpEnc el 2 h₀ (h.upd r (true,.cells (cs.setIfInBounds (2*out.length+1) (.int .i64 v)) el (0,0))) p n c (out++[⟨s.first,v⟩]):=by
 have l:=g.count SpEnc.len (by omega);obtain⟨vs,⟨h1,h2⟩,h3⟩:=g.row;obtain⟨us,ws,rfl,k,rfl⟩:=h3.last;have i:=k.len SpEnc.len;rcases h2 with⟨_,h2,_⟩|⟨r,cs,rfl,hr,d,f,hv⟩
 ·simp at l;omega
 ·have b:n=out.length+1:=by simpa using l
  have hc1:cs[2*out.length+1]?=some (.int .i64 s.last):=by
   refine hv _ _ ?_;rw[List.getElem?_append_right (by omega)];rw[show 2*out.length+1-us.length=1 by omega];rfl
  refine⟨r,cs,rfl,hr,g.new _ rfl,b,(Array.getElem?_eq_some_iff.1 hc1).1,hc1,fun v=>?_⟩;refine⟨⟨us++[.int .i64 s.first,.int .i64 v],⟨by rw[List.length_append,i,b];simp;omega,.inr ⟨r,_,rfl,Qk _ _ _,by simp;exact d,f,fun j w a=>?_⟩⟩,Rows.snoc (x:=(⟨s.first,v⟩ : Tr.Sp)) (ws:=[.int .i64 s.first,.int .i64 v]) k rfl⟩,g.new⟩;by_cases e:j=2*out.length+1
  ·subst e;rw[Array.getElem?_setIfInBounds_self_of_lt (Array.getElem?_eq_some_iff.1 hc1).1];rw[List.getElem?_append_right (by omega),show 2*out.length+1-us.length=1 by omega]at a;exact a
  ·rw[Array.getElem?_setIfInBounds_ne (Ne.symm e)];refine hv j w ?_;by_cases m:j<us.length
   ·rw[List.getElem?_append_left m]at a ⊢;exact a
   ·rw[List.getElem?_append_right (by omega)]at a ⊢
    match o:j-us.length,a with
    | 0,a=>exact a
    | 1,a=>omega
    | q+2,a=>simp at a
end Go.TM
namespace Go.Y.Tre
open Go.TM.Tr
attribute [local irreducible] T.wp CV FWK
def SpansR(h:Cells)(x:TF)(k i:Int)(r:Value):Prop :=
 (Q7 x k i≠0/\r=.tuple #[.slice none 0 0,.int .i64 (Q7 x k i)]) \/
 (Q7 x k i=0/\∃ p n c l,r=.tuple #[.slice p n c,.int .i64 0]/\IsDays x l/\Sl SpE 2 h p n (spansT x k i l)/\n<=c)
theorem join_none{d e:Int}:join [] d e=[⟨d,e-1⟩]:=rfl
theorem join_last{out:List Sp}{s:Sp}{d e:Int}:join (out++[s]) d e=if s.last=d-1 then out++[⟨s.first,e-1⟩] else (out++[s])++[⟨d,e-1⟩]:=by
 unfold join;simp
theorem c2023{h:LH}(hk:Kinds h.get){f:TC}{x:TF}(hx:TreatyR h.get f x)(k i:Int):Gr Tryz.prog 59 #[treatyV f x,.int .i64 k,.int .i64 i] h fun r h'=>SpansR h'.get x k i r:=by
 refine w2023 Qr ?_;refine t_pu (c2058 hk hx k i) ?_;refine yI (fun e=>?_) (fun e=>?_)
 ·exact Qn ⟨LH.le_refl _,.inl ⟨by simpa using e,rfl⟩⟩
 have e0:Q7 x k i=0:=by simpa using e
 have n1:=(Gu (askedItem_ok e0).1).1;have rt:=Right.of n1;have j2:=rt.many;have hn:=hx.2.1;refine t_makeMap fun m y1=>?_;have G:∀ {h':LH} {o:Obj},h.le h'->h.le { h' with get:=h'.get.upd m (true,o) }:=by
  intro h' o hl;refine⟨fun a y U=>?_,hl.2⟩;have:a≠m:=by rintro rfl;rw[y1]at U;cases U
  show Cells.upd _ _ _ a=_;rw[Qp _ _ this];exact hl.1 a y U
 refine gZ ?_;refine U3 (l:=[]) undMap i64_3 ⟨#[],0,Qk _ _ _,Keys.nil⟩ fun V c1 l1 z1 k1 p1=>?_;refine U3 (l:=l1) undMap i64_3 ⟨V,c1,z1,k1⟩ fun W c2 l2 b2 k2 q1=>?_;have y2:=G (o:=.map W c2) (G (o:=.map V c1) (G (o:=.map #[] 0) (LH.le_refl h)));refine Jc (fun mm vs h'=>h.le h'/\∃ (j:Nat) (es:Array MapEntry) (c:Nat) (l:List Int),vs=[.int .i64 j]/\j<=f.n/\mm=f.n-j/\h'.get m=some (true,.map es c)/\Keys es c l/\∀ v,v∈l↔v=0\/v=10000\/∃ e∈x.events.take j,e.day=v)
  ⟨y2,0,W,c2,l2,rfl,Nat.zero_le _,rfl,b2,k2,fun v=>by rw[q1,p1];simp;omega⟩ ?_
 rintro Y mm vs h3 hY ⟨N,j,es,c,l,rfl,hj,rfl,o0,k3,z⟩;refine yJ (fun e1=>?_) (fun e1=>?_)
 ·obtain⟨e,a,he,U,g0,g1,g2,⟨q,O,cq,g3,g6,g5⟩,g4⟩:=(hx.2.le EventE.grow N.1).at (i:=j) (by omega);refine gZ ?_;refine U3 (l:=l) undMap i64_3 ⟨es,c,o0,k3⟩ fun j1 c' l' x1 k' o1=>?_;refine Qj (hY (f.n-(j+1)) _ _ (by omega) ⟨G N,j+1,j1,c',l',?_,by omega,rfl,x1,k',fun v=>?_⟩)
  ·rw[Qo (by omega) (by omega)];rfl
  ·rw[o1,z,List.take_add_one,he];simp only[List.mem_append,Option.toList,List.mem_singleton];constructor
   ·rintro(rfl|h1|h1|⟨e',h1,h2⟩)
    ·exact .inr (.inr ⟨e,.inr rfl,rfl⟩)
    ·exact .inl h1
    ·exact .inr (.inl h1)
    ·exact .inr (.inr ⟨e',.inl h1,h2⟩)
   ·rintro(h1|h1|⟨e',h1|rfl,h2⟩)
    ·exact .inr (.inl h1)
    ·exact .inr (.inr (.inl h1))
    ·exact .inr (.inr (.inr ⟨e',h1,h2⟩))
    ·exact .inl h2.symm
 ·refine gZ ?_;rw[List.take_of_length_le (by omega)]at z;have l0:l.length<=12:=by
   have:=Uh (m:=0::10000::x.events.map (·.day)) k3.nodup fun v hv=>by
    rcases(z v).1 hv with rfl|rfl|⟨e,he,rfl⟩
    ·simp
    ·simp
    ·simp only[List.mem_cons,List.mem_map];exact .inr (.inr ⟨e,he,rfl⟩)
   simp at this;omega
  have n0:l≠[]:=by
   rintro rfl;have:=(z 0).2 (.inl rfl);simp at this
  refine t_gr (c2059 o0 k3 n0 l0) ?_;rintro _ R z2 ⟨p,n,c',days,rfl,hs,q3,w0,H⟩;have E:IsDays x days:=⟨w0,fun v=>by rw[H,z]⟩
  have n3:=hs.1;have l3:2<=days.length:=by
   have h0:(0:Int)∈days:=(E.mem 0).2 (.inl rfl);have h1:(10000:Int)∈days:=(E.mem 10000).2 (.inr (.inl rfl))
   match days,h0,h1 with
   | [],h0,_=>simp at h0
   | [a],h0,h1=>simp at h0 h1;omega
   | a::b::l,_,_=>simp
  have a3:days.length<=12:=by
   have:=Uh (m:=l) (w0.imp fun h=>by omega) fun v hv=>(H v).1 hv;omega
  have hbound:∀ v∈days,0<=v/\v<=10000:=by
   intro v hv;rcases(E.mem v).1 hv with rfl|rfl|⟨e,he,rfl⟩
   ·omega
   ·omega
   ·have:=rt.ok e he;omega
  have z0:=LH.le_trans N z2;refine gZ ?_;have hw:wrap .i64 ((n:Int)-1)=((n-1:Nat):Int):=by rw[Qo (by omega) (by omega)];omega
  rw[hw];refine W1 und50 inf3 (by omega) ?_;refine gZ ?_;refine Jc (fun mm vs h'=>R.le h'/\∃ (j:Nat) (q:Option Addr) (m P:Nat) (out:List Sp),vs=[.slice q m P,.int .i64 j]/\j<=n-1/\mm=n-1-j/\out.length<=j/\Growing SpEnc 46 2 R.get h'.get q m P out/\spansT x k i days=spansGo (fun d=>decide (0<=dateOn x k i d)) (days.drop j) out)
   ⟨LH.le_refl _,0,none,0,0,[],rfl,Nat.zero_le _,rfl,Nat.le_refl _,Growing.nil,rfl⟩ ?_
  clear hY e1 hj;rintro Y mm vs h5 hY ⟨F,j,q,O,P,out,rfl,hj,rfl,p0,g,hc⟩;have B:=LH.le_trans z0 F;have m2:=g.count SpEnc.len (by omega);have next:∀ h' q' m' c' t,R.le h'->j+1<=n-1->t.length<=j+1->Growing SpEnc 46 2 R.get h'.get q' m' c' t->spansT x k i days=spansGo (fun d=>decide (0<=dateOn x k i d)) (days.drop (j+1)) t->Y [.slice q' m' c',.int .i64 (wrap .i64 ((j:Int)+1))] h':=by
   intro h' q' m' c' t m0 u1 q0 g' m1;refine hY (n-1-(j+1)) _ _ (by omega) ⟨m0,j+1,q',m',c',t,?_,by omega,rfl,q0,g',m1⟩;rw[Qo (by omega) (by omega)];rfl
  refine yJ (fun e2=>?_) (fun e2=>?_)
  ·obtain⟨d,a,hd,U,e3⟩:=(hs.le IntE.grow F.1).at (i:=j) (by omega);obtain⟨d2,a2,w,a0,e4⟩:=(hs.le IntE.grow F.1).at (i:=j+1) (by omega);unfold IntE at e3 e4;rw[U]at a0;cases a0;have u2:wrap .i64 ((j:Int)+1)=((j+1:Nat):Int):=by rw[Qo (by omega) (by omega)];rfl
   rw[J0 hd,J0 w,spansGo]at hc;rw[<- J0 w]at hc;have m3:=hbound d (List.mem_of_getElem? hd);have b3:=hbound d2 (List.mem_of_getElem? w);rw[u2]at next ⊢
   refine gZ ?_;refine t_gr (c2060 (hk.le B.1) (hx.le B.1) rt k i d) ?_;rintro _ S a1 rfl;have u:=LH.le_trans F a1;have g6:=g.le a1.1;refine yJ (fun e5=>?_) (fun e5=>?_)
   ·rw[if_neg (by simp;omega)]at hc;exact Qj (next S q O P out u (by omega) (by omega) g6 hc)
   ·rw[if_pos (by simp;omega)]at hc;have q2:wrap .i64 (d2-1)=d2-1:=Qo (by omega) (by omega);have y0:wrap .i64 (d-1)=d-1:=Qo (by omega) (by omega);rw[q2,y0];have push:spansT x k i days=spansGo (fun d=>decide (0<=dateOn x k i d)) (days.drop (j+1)) (out++[⟨d,d2-1⟩])->∀ {K:Value->T} {Q:Leaf->LH->Prop},(∀ I c' h',R.le h'->Growing SpEnc 46 2 R.get h'.get I (O+1) c' (out++[⟨d,d2-1⟩])->(K (.slice I (O+1) c')).wp X0 Tryz.prog Q h') ->
      (T.sem false (Instr.buildSlice 22 1 #[(0,.agg #[.int .i64 d,.int .i64 (d2-1)])]) fun v=>T.unS v fun a m mc=>T.sem false (Builtin.append_ #[22,22] 22 #[.slice q O P,.slice a m mc]) K).wp X0 Tryz.prog Q S:=by
     intro _ K Q hK;refine G1 (⟨d,d2-1⟩ : Sp) [.int .i64 d,.int .i64 (d2-1)] rfl rfl und22 inf30 rfl (by omega) (by decide) (by kernel_rfl) rfl (by simp;exact⟨rfl,rfl⟩) (by omega) g6 u rfl ?_;intro I c' Z C _ X;exact hK I c' Z C X
    refine t_if (fun e6=>?_) (fun e6=>?_)
    ·obtain⟨t,s,rfl⟩ : ∃ t s,out=t++[s]:=⟨out.dropLast,out.getLast (by rintro rfl;simp at m2;omega),(List.dropLast_concat_getLast _).symm⟩
     obtain⟨r,cs,rfl,A,o2,j3,u1,j0,u0⟩:=g6.lastSp;have x2:wrap .i64 ((O:Int)-1)=(t.length:Int):=by rw[Qo (by omega) (by omega)];omega
     have L:S.get.cell? ((Addr.add ⟨r,0,none⟩ ((t.length:Int).toNat*2)).add 1)=some (.int .i64 s.last):=by
      rw[Qa,Qa];have:0+(t.length:Int).toNat*2+1=2*t.length+1:=by simp;omega
      rw[this];simp only[Cells.cell?,A,Option.isSome_none,Bool.false_eq_true,if_false];exact j0
     rw[join_last]at hc;rw[x2];refine gT (by omega) (gS2 rfl (gL0 L ?_));refine Qt (fun e7=>?_) (fun e7=>?_)
     ·rw[if_pos (by simpa using e7)]at hc;refine gT (by omega) (gS2 rfl ?_);have J:((Addr.add ⟨r,0,none⟩ ((t.length:Int).toNat*2)).add 1).add 0=⟨r,2*t.length+1,none⟩:=by
       rw[Qa,Qa,Qa];have:0+(t.length:Int).toNat*2+1+0=2*t.length+1:=by simp;omega
       rw[this]
      rw[J];have D:S.get.cell? ⟨r,2*t.length+1,none⟩=some (.int .i64 s.last):=by
       simp only[Cells.cell?,A,Option.isSome_none,Bool.false_eq_true,if_false];exact j0
      refine t_store rfl ⟨_,A⟩ D (by simp[Cells.frozen?,A]) ?_;have x0:S.get.setCell ⟨r,2*t.length+1,none⟩ (.int .i64 (d2-1))=S.get.upd r (true,.cells (cs.setIfInBounds (2*t.length+1) (.int .i64 (d2-1))) 46 (0,0)):=by
       funext b;unfold Cells.setCell Cells.upd;by_cases e:b=r
       ·subst e;simp[A]
       ·simp[e]
      rw[x0];refine Qj (next _ _ _ _ (t++[⟨s.first,d2-1⟩]) ?_ (by omega) (by simp at p0 ⊢;omega) (u0 (d2-1)) hc);refine⟨fun b y hb=>?_,u.2⟩;have n2:b≠r:=by rintro rfl;rw[o2]at hb;cases hb
      show Cells.upd _ _ _ b=_;rw[Qp _ _ n2];exact u.1 b y hb
     ·rw[if_neg (by simpa using e7)]at hc;refine push hc fun I c' Z C X=>?_;refine gZ ?_;exact Qj (next Z I _ c' _ C (by omega) (by simp at p0 ⊢;omega) X hc)
    ·have s0:out=[]:=List.eq_nil_of_length_eq_zero (by omega);subst s0;rw[join_none]at hc;refine push hc fun I c' Z C X=>?_;refine gZ ?_;exact Qj (next Z I _ c' _ C (by omega) (by simp) X hc)
  ·refine gZ ?_;have o3:j=n-1:=by omega
   have k0:spansT x k i days=out:=by
    rw[hc];have M:(days.drop j).length=1:=by rw[List.length_drop];omega
    match hd:days.drop j,M with
    | [d],_=>rfl
   refine Qn ⟨B,.inr ⟨e0,q,O,P,days,rfl,E,?_,?_⟩⟩
   ·rw[k0];exact g.sl SpEnc.len (by omega) SpEnc.e (by omega)
   ·obtain⟨vs,o,_⟩:=g.row;exact o.le_cap
end Go.Y.Tre
end
section
namespace Go.TM
variable {P:Program}
variable {h:LH}{v:Value}
theorem setCell_at{h:Cells}{r i:Nat}{m:Bool}{cs:Array Value}{el:TypeId}(hr:h r=some (m,.cells cs el (0,0))):h.setCell ⟨r,i,none⟩ v=h.upd r (m,.cells (cs.setIfInBounds i v) el (0,0)):=by
 funext b;unfold Cells.setCell Cells.upd;by_cases e:b=r
 ·subst e;simp[hr]
 ·simp[e]
theorem t_newSt2{X:XP}{Q:Leaf->LH->Prop}{e:TypeId}{v₀:Value}{k:Nat->T}(h1:isOne v=true)(b:∀ r h',h.le h'->h.get r=none->h'.get=h.get.upd r (true,.cells #[v] e (0,0))->h'.get.cell? ⟨r,0,none⟩=some v->(k r).wp X P Q h') :
  (T.new e #[v₀] fun r=>T.store (Addr.add ⟨r,0,none⟩ 0) v (k r)).wp X P Q h:=by
 refine Z5 fun r hr=>?_;have a:Addr.add (⟨r,0,none⟩ : Addr) 0=⟨r,0,none⟩:=by rw[Qa]
 rw[a];refine Dw (o:=0) rfl h1 (by simp) ?_;have:(#[v₀]:Array Value).setIfInBounds 0 v=#[v]:=rfl;rw[this];exact b r _ (Q4 hr) hr rfl (Q5 rfl)
theorem cell_freeze2(F:Nat->Bool)(h:Cells)(a:Addr):(freezeC F h).cell? a=h.cell? a:=by
 unfold Cells.cell? freezeC;cases h a.block with
 | none=>rfl
 | some x=>obtain⟨m,o⟩:=x;cases o<;>rfl
theorem rd_freeze2(F:Nat->Bool)(h:Cells):Rd h (freezeC F h):=fun a v hc=>by rw[cell_freeze2];exact hc
theorem rd_drop2{h:Cells}{c s:Nat}(b:h c=some (true,.chan 0 #[] false s s false)):Rd h (dropC h c):=by
 intro a v hc;unfold Cells.cell? dropC at *;by_cases e:a.block=c
 ·rw[e,b]at hc;cases hc
 ·rw[if_neg e];exact hc
def Yz(q1 q2:Nat)(h:LH):Prop:=(h.chans=[]/\q1≠q2/\(∃ s,h.get q1=some (true,.chan 0 #[] false s s false))/\∃ s,h.get q2=some (true,.chan 0 #[] false s s false))\/h.chans=[q2,q1]
theorem Yz.le{f g:Nat}{h h':LH}(e:h.le h')(i:Yz f g h):Yz f g h':=by
 rcases i with⟨a,b,⟨s,c⟩,t,d⟩|a
 ·exact .inl ⟨by rw[e.2.1,a],b,⟨s,e.1 _ _ c⟩,t,e.1 _ _ d⟩
 ·exact .inr (by rw[e.2.1,a])
theorem spawnW_two{f:FuncId}{cap:Array Value}{Q:LH->Prop}{s:Script}(d g:Nat)(a:[]∉h.pend)(l:Yz d g h)(k:s≠[])(p:∀ y∈s,y.1=d\/y.1=g)(c:∀ hc,Rd h.get hc->FWK XW P .deferred f cap ⟨hc,[],[],s⟩ fun _ _=>False)
 (n:∀ h',Rd h.get h'.get->h'.chans=[g,d]->h'.todo=h.todo->h'.pend=h.pend++[s]->Q h'):SpawnW XT P (.func (.func f) #[] cap) #[] h Q:=by
 have key:∀ h1:LH,Rd h.get h1.get->h1.chans=[g,d]->h1.todo=h.todo->h1.pend=h.pend->SpawnW XT P (.func (.func f) #[] cap) #[] h1 Q:=by
  intro h1 r1 c1 t1 m;refine spawnW (fun _=>true) (freezeC (fun _=>true) h1.get) s k (hargs:=cap) (by simp) ?_ (by rw[m];exact a) ?_ (c _ (r1.trans (rd_freeze2 _ _))) ?_
  ·intro r x b;refine⟨?_,b⟩;unfold freezeC at b;cases j:h1.get r with
   | none=>rw[j]at b;cases b
   | some y=>rw[j]at b;simp at b;rw[<- b]
  ·intro y j;rw[c1];rcases p y j with e|e<;>simp[e]
  ·exact n _ (r1.trans (rd_freeze2 _ _)) c1 t1 (by show h1.pend++_=_;rw[m])
 rcases l with⟨h1,o,⟨s1,h2⟩,s2,h3⟩|h1
 ·refine SpawnW.opened a d s1 h2 ?_;have i:dropC h.get d g=some (true,.chan 0 #[] false s2 s2 false):=by unfold dropC;rw[if_neg (Ne.symm o)];exact h3
  refine SpawnW.opened a g s2 i (key _ ((rd_drop2 h2).trans (rd_drop2 i)) ?_ rfl rfl);show g::d::h.chans=_;rw[h1]
 ·exact key h (Rd.refl _) h1 rfl rfl
def scr(q1 q2:Nat)(φ:Nat->Value->Cells->Prop)(ψ:Value->Cells->Prop)(x:Nat×Bool):Script:=if x.2 then [(q1,φ x.1),(q2,ψ)] else [(q2,ψ)]
theorem commW_sel{last:Bool}{g f:Nat}{A B:Value}{φ:Nat->Value->Cells->Prop}{ψ:Value->Cells->Prop}{rem:List (Nat×Bool)}{Q:Value->LH->Prop}(K:h.pend=rem.map (scr g f φ ψ))(hc:h.chans=[f,g])(D:g≠f)(J:rem≠[])
 (F:∀ j i m v d,rem=j++(i,true)::m->d.todo=h.todo->d.pend=(j++(i,false)::m).map (scr g f φ ψ)->d.chans=[f,g]->(∃ hv,φ i v hv/\hv.le d.get)->h.get.le d.get->Q (commResult #[rcase g A,rcase f B] .select (0:Nat) v true) d)
 (q:∀ j i m v d,rem=j++(i,false)::m->d.todo=h.todo->d.pend=(j++m).map (scr g f φ ψ)->((j++m≠[]/\d.chans=[f,g])\/(j++m=[]/\d.chans=[]))->(∃ hv,ψ v hv)->h.get.le d.get->Q (commResult #[rcase g A,rcase f B] .select (1:Nat) v true) d):CommW XT P last #[rcase g A,rcase f B] .select h Q:=by
 refine CommW.closed (CommW.closed (commW_recv ?_ (by rw[K];simpa using J) ?_ ?_))
 ·intro k U l
  match k,l with
  | 0,l=>simp at l;subst l;exact⟨g,A,rfl,by rw[hc];simp⟩
  | 1,l=>simp at l;subst l;exact⟨f,B,rfl,by rw[hc];simp⟩
  | k+2,l=>simp at l
 ·intro s E;rw[K]at E;obtain⟨⟨i,b⟩,t,rfl⟩:=List.mem_map.1 E;cases b with
  | true=>exact⟨g,φ i,[(f,ψ)],0,A,rfl,rfl⟩
  | false=>exact⟨f,ψ,[],1,B,rfl,rfl⟩
 ·intro pre χ s post k c v hv W y a S O n;rw[K]at y;obtain⟨j,m,rfl,u,I⟩:=List.map_eq_append_iff.1 y;obtain⟨⟨i,b⟩,z,rfl,t,w⟩:=List.map_eq_cons_iff.1 I;have o:h.get.le (h.get.add hv):=Zg _ _;have M:hv.le (h.get.add hv):=fun r x hr=>Q1 S hr;cases b with
  | true =>
   simp only[scr,if_true,List.cons.injEq,Prod.mk.injEq]at t;obtain⟨⟨rfl,rfl⟩,rfl⟩:=t;have G:k=0:=by
    match k,a with
    | 0,_=>rfl
    | 1,a=>simp[rcase]at a;exact absurd a.1.symm D
    | k+2,a=>simp at a
   subst G;refine .inl (.inl (F j i z v _ rfl rfl ?_ hc ⟨hv,n,M⟩ o));show pre++cons' [(f,ψ)] post=_;rw[<- u,<- w,List.map_append,List.map_cons];rfl
  | false =>
   simp only[scr,Bool.false_eq_true,if_false,List.cons.injEq,Prod.mk.injEq]at t;obtain⟨⟨rfl,rfl⟩,rfl⟩:=t;have H:k=1:=by
    match k,a with
    | 0,a=>simp[rcase]at a;exact absurd a.1 D
    | 1,_=>rfl
    | k+2,a=>simp at a
   subst H;have e:pre++cons' [] post=(j++z).map (scr g f φ ψ):=by
    show pre++post=_;rw[<- u,<- w,List.map_append]
   by_cases C:j++z=[]
   ·right;refine⟨f,by show f∈h.chans;rw[hc];simp,by show pre++cons' [] post=[];rw[e,C];rfl,fun s E=>?_⟩;right;refine⟨g,?_,by show pre++cons' [] post=[];rw[e,C];rfl,fun V L=>?_⟩
    ·show g∈h.chans.filter _;rw[hc];simp[D]
    ·refine q j i z v _ rfl rfl e (.inr ⟨C,?_⟩) ⟨hv,n⟩ ?_
     ·show (h.chans.filter _).filter _=[];rw[hc];simp[D]
     ·exact Cells.le_trans o (Cells.le_trans (J6 _ E) (J6 _ L))
   ·exact .inl (.inl (q j i z v _ rfl rfl e (.inl ⟨C,hc⟩) ⟨hv,n⟩ o))
/-! ### R p and N boxes, made in any order -/
structure Opening(t1 t2:TypeId)(h₀ h:LH)(c1 c2:Option Nat)(b1 b2:Option (Nat×Bool)):Prop where
 le:h₀.le h
 hc1:∀ q,c1=some q->h.get q=some (true,.chan 0 #[] false 0 0 false)
 hc2:∀ q,c2=some q->h.get q=some (true,.chan 0 #[] false 0 0 false)
 ne:∀ q q',c1=some q->c2=some q'->q≠q'
 hb1:∀ r s,b1=some (r,s)->h₀.get r=none/\h.get r=some (true,.cells #[.chan (if s then c1 else none)] t1 (0,0))
 hb2:∀ r s,b2=some (r,s)->h₀.get r=none/\h.get r=some (true,.cells #[.chan (if s then c2 else none)] t2 (0,0))
 bne:∀ r s r' s',b1=some (r,s)->b2=some (r',s')->r≠r'
section
variable {X:XP} {Q:Leaf->LH->Prop} {h₀ h:LH} {c1 c2:Option Nat} {b1 b2:Option (Nat×Bool)} {t1 t2:TypeId}
variable {b s q r:Nat}{k:Value->T}{el:TypeId}{z:Option Value}
theorem Opening.start:Opening t1 t2 h₀ h₀ none none none none:=⟨LH.le_refl _,fun _ h=>(by cases h),fun _ h=>(by cases h),fun _ _ h=>(by cases h),fun _ _ h=>(by cases h),fun _ _ h=>(by cases h),fun _ _ _ _ h=>(by cases h)⟩
theorem Wf{h:Cells}{a:Nat}{x:Bool×Obj}(c:h a=none)(hb:h b=some x):b≠a:=by rintro rfl;rw[c]at hb;cases hb
theorem op_chan1{d:ChanDir}(hu:P.underlying t1=some (.chan d el))(j:(P.info? el).map (fun i=>(i.size,i.bytes,i.zero))=some (s,b,z))(O:Opening t1 t2 h₀ h none c2 b1 b2)
 (l:∀ q h',Opening t1 t2 h₀ h' (some q) c2 (b1.map fun x=>(x.1,false)) b2->(k (.chan (some q))).wp X P Q h'):(T.sem false (Instr.makeChan t1 (.int .i64 0)) k).wp X P Q h:=by
 refine t_makeChan hu j fun q c=>l q _ ?_;have hle:=Q4 (x:=(true,.chan 0 #[] false 0 0 false)) c;refine⟨LH.le_trans O.le hle,fun f e=>by cases e;exact Qk _ _ _,fun f e=>hle.1 _ _ (O.hc2 f e),fun a b g hb=>by cases g;exact(Wf c (O.hc2 b hb)).symm,fun r s hr=>?_,fun r s hr=>⟨(O.hb2 r s hr).1,hle.1 _ _ (O.hb2 r s hr).2⟩,fun r s m n h1 h2=>?_⟩
 ·cases hb:b1 with
  | none=>rw[hb]at hr;cases hr
  | some x =>
   rw[hb]at hr;cases hr;have:=O.hb1 x.1 x.2 hb;refine⟨this.1,?_⟩;have h3:=hle.1 _ _ this.2;rw[h3];cases x.2<;>rfl
 ·cases hb:b1 with
  | none=>rw[hb]at h1;cases h1
  | some x=>rw[hb]at h1;cases h1;exact O.bne x.1 x.2 m n hb h2
theorem op_chan2{d:ChanDir}(hu:P.underlying t2=some (.chan d el))(j:(P.info? el).map (fun i=>(i.size,i.bytes,i.zero))=some (s,b,z))(O:Opening t1 t2 h₀ h c1 none b1 b2)
 (l:∀ q h',Opening t1 t2 h₀ h' c1 (some q) b1 (b2.map fun x=>(x.1,false))->(k (.chan (some q))).wp X P Q h'):(T.sem false (Instr.makeChan t2 (.int .i64 0)) k).wp X P Q h:=by
 refine t_makeChan hu j fun q c=>l q _ ?_;have hle:=Q4 (x:=(true,.chan 0 #[] false 0 0 false)) c;refine⟨LH.le_trans O.le hle,fun f e=>hle.1 _ _ (O.hc1 f e),fun f e=>by cases e;exact Qk _ _ _,fun a b g hb=>by cases hb;exact Wf c (O.hc1 a g),fun r s hr=>⟨(O.hb1 r s hr).1,hle.1 _ _ (O.hb1 r s hr).2⟩,fun r s hr=>?_,fun r s m n h1 h2=>?_⟩
 ·cases hb:b2 with
  | none=>rw[hb]at hr;cases hr
  | some x =>
   rw[hb]at hr;cases hr;have:=O.hb2 x.1 x.2 hb;refine⟨this.1,?_⟩;have h3:=hle.1 _ _ this.2;rw[h3];cases x.2<;>rfl
 ·cases hb:b2 with
  | none=>rw[hb]at h2;cases h2
  | some x=>rw[hb]at h2;cases h2;exact O.bne r s x.1 x.2 h1 hb
theorem op_new1{k:Nat->T}(O:Opening t1 t2 h₀ h c1 c2 none b2)(c:∀ r h',Opening t1 t2 h₀ h' c1 c2 (some (r,false)) b2->(k r).wp X P Q h'):(T.new t1 #[.chan none] k).wp X P Q h:=by
 refine Z5 fun q a=>c q _ ?_;have hle:=Q4 (x:=(true,.cells #[.chan none] t1 (0,0))) a;have h0:h₀.get q=none:=by
  cases d:h₀.get q with
  | none=>rfl
  | some x=>rw[O.le.1 _ _ d]at a;cases a
 exact⟨LH.le_trans O.le hle,fun b e=>hle.1 _ _ (O.hc1 b e),fun b e=>hle.1 _ _ (O.hc2 b e),O.ne,fun r s hr=>by cases hr;exact⟨h0,Qk _ _ _⟩,fun r s hr=>⟨(O.hb2 r s hr).1,hle.1 _ _ (O.hb2 r s hr).2⟩,fun r s f g h1 h2=>by cases h1;exact(Wf a (O.hb2 f g h2).2).symm⟩
theorem op_new2{k:Nat->T}(O:Opening t1 t2 h₀ h c1 c2 b1 none)(c:∀ r h',Opening t1 t2 h₀ h' c1 c2 b1 (some (r,false))->(k r).wp X P Q h'):(T.new t2 #[.chan none] k).wp X P Q h:=by
 refine Z5 fun q a=>c q _ ?_;have hle:=Q4 (x:=(true,.cells #[.chan none] t2 (0,0))) a;have h0:h₀.get q=none:=by
  cases d:h₀.get q with
  | none=>rfl
  | some x=>rw[O.le.1 _ _ d]at a;cases a
 exact⟨LH.le_trans O.le hle,fun b e=>hle.1 _ _ (O.hc1 b e),fun b e=>hle.1 _ _ (O.hc2 b e),O.ne,fun r s hr=>⟨(O.hb1 r s hr).1,hle.1 _ _ (O.hb1 r s hr).2⟩,fun r s hr=>by cases hr;exact⟨h0,Qk _ _ _⟩,fun r s f g h1 h2=>by cases h2;exact Wf a (O.hb1 r s h1).2⟩
theorem op_store1{k:T}(O:Opening t1 t2 h₀ h (some q) c2 (some (r,false)) b2)(l:∀ h',Opening t1 t2 h₀ h' (some q) c2 (some (r,true)) b2->k.wp X P Q h'):(T.store (Addr.add ⟨r,0,none⟩ 0) (.chan (some q)) k).wp X P Q h:=by
 have hr:=(O.hb1 r false rfl).2;have j:Addr.add (⟨r,0,none⟩ : Addr) 0=⟨r,0,none⟩:=by rw[Qa]
 rw[j];refine t_store rfl ⟨_,hr⟩ (v₀:=.chan none) (by simp[Cells.cell?,hr]) (by simp[Cells.frozen?,hr]) ?_;rw[setCell_at hr];refine l _ ?_;have keep:∀ b x,h.get b=some x->b≠r->(h.get.upd r (true,.cells ((#[.chan (if false=true then some q else none)]:Array Value).setIfInBounds 0 (.chan (some q))) t1 (0,0))) b=some x:=fun b x hb i=>by rw[Qp _ _ i];exact hb
 have f:∀ b,h.get b=some (true,.chan 0 #[] false 0 0 false)->b≠r:=fun b hb e=>by rw[e,hr]at hb;cases hb
 refine⟨⟨fun b x hb=>keep b x (O.le.1 b x hb) (Wf (O.hb1 r false rfl).1 hb),O.le.2⟩,fun g e=>keep _ _ (O.hc1 g e) (f _ (O.hc1 g e)),fun g e=>keep _ _ (O.hc2 g e) (f _ (O.hc2 g e)),O.ne,fun d s c=>?_,fun d s c=>⟨(O.hb2 d s c).1,keep _ _ (O.hb2 d s c).2 (O.bne r false d s rfl c).symm⟩,fun a s d m h1 h2=>by cases h1;exact O.bne r false d m rfl h2⟩;cases c;exact⟨(O.hb1 r false rfl).1,Qk _ _ _⟩
theorem op_store2{k:T}(O:Opening t1 t2 h₀ h c1 (some q) b1 (some (r,false)))(l:∀ h',Opening t1 t2 h₀ h' c1 (some q) b1 (some (r,true))->k.wp X P Q h'):(T.store (Addr.add ⟨r,0,none⟩ 0) (.chan (some q)) k).wp X P Q h:=by
 have hr:=(O.hb2 r false rfl).2;have j:Addr.add (⟨r,0,none⟩ : Addr) 0=⟨r,0,none⟩:=by rw[Qa]
 rw[j];refine t_store rfl ⟨_,hr⟩ (v₀:=.chan none) (by simp[Cells.cell?,hr]) (by simp[Cells.frozen?,hr]) ?_;rw[setCell_at hr];refine l _ ?_;have keep:∀ b x,h.get b=some x->b≠r->(h.get.upd r (true,.cells ((#[.chan (if false=true then some q else none)]:Array Value).setIfInBounds 0 (.chan (some q))) t2 (0,0))) b=some x:=fun b x hb i=>by rw[Qp _ _ i];exact hb
 have d:∀ b,h.get b=some (true,.chan 0 #[] false 0 0 false)->b≠r:=fun b hb e=>by rw[e,hr]at hb;cases hb
 refine⟨⟨fun b x hb=>keep b x (O.le.1 b x hb) (Wf (O.hb2 r false rfl).1 hb),O.le.2⟩,fun f e=>keep _ _ (O.hc1 f e) (d _ (O.hc1 f e)),fun f e=>keep _ _ (O.hc2 f e) (d _ (O.hc2 f e)),O.ne,fun g s c=>⟨(O.hb1 g s c).1,keep _ _ (O.hb1 g s c).2 (O.bne g s r false c rfl)⟩,fun g s c=>?_,fun a s g m h1 h2=>by cases h2;exact O.bne a s r false h1 rfl⟩;cases c;exact⟨(O.hb2 r false rfl).1,Qk _ _ _⟩
end
end Go.TM
end
namespace Go.Y.Tre
section
open Go.TM.Tr
attribute [local irreducible] T.wp CV FWK
variable {i j:Nat}{l:List Int}{f:TC}{x:TF}
theorem bit_test(c:i<2^32):(wrap .i64 (((BitVec.ofInt 64 (Int.fdiv (i:Int) (2^min (j:Int).toNat 64)) &&& BitVec.ofInt 64 1).toNat:Nat):Int)==1)=i.testBit j:=by
 have d:∃ q:Nat,Int.fdiv (i:Int) (2^min (j:Int).toNat 64)=(q:Int)/\q<=i/\q%2=(i / 2^j)%2:=by
  by_cases f:j<=64
  ·have hm:min (j:Int).toNat 64=j:=by simp;omega
   refine⟨i / 2^j,?_,Nat.div_le_self _ _,rfl⟩;rw[hm];have:(2^j:Int)=((2^j:Nat):Int):=by simp
   rw[this,<- Int.ofNat_fdiv]
  ·have hm:min (j:Int).toNat 64=64:=by simp;omega
   refine⟨0,?_,Nat.zero_le _,?_⟩
   ·rw[hm];have:(2^64:Int)=((2^64:Nat):Int):=by simp
    rw[this,<- Int.ofNat_fdiv];have:i / 2^64=0:=Nat.div_eq_of_lt (by omega);rw[this]
   ·have:i / 2^j=0:=Nat.div_eq_of_lt (Nat.lt_of_lt_of_le c (Nat.pow_le_pow_right (by omega) (by omega)));rw[this]
 obtain⟨q,h1,h2,h3⟩:=d;rw[h1];have a:(BitVec.ofInt 64 (q:Int)).toNat=q:=by rw[BitVec.toNat_ofInt];omega
 have b:(BitVec.ofInt 64 1).toNat=1:=rfl;rw[BitVec.toNat_and,a,b,Nat.and_one_is_mod,Qo (by omega) (by omega),Nat.testBit_eq_decide_div_mod_eq,<- h3];by_cases e:q%2=1
 ·rw[e];rfl
 ·have:q%2=0:=by omega
  rw[this];rfl
theorem sets_wrap{n:Nat}(b:n<=10):wrap .i64 (1*2^min (Int.toNat (n:Int)) 64)=((2^n:Nat):Int):=by
 have e:min (Int.toNat (n:Int)) 64=n:=by simp;omega
 have h2:(2:Nat)^n<=2^10:=Nat.pow_le_pow_right (by omega) b;have a:(1:Int)*2^n=((2^n:Nat):Int):=by simp
 rw[e,a];generalize 2^n=m at h2;rw[Qo (by omega) (by omega)]
def bitsTo(l:List Int)(i j:Nat):List Int:=(((List.range l.length).take j).filter fun b=>i.testBit b).map fun b=>l.getD b 0
def bitsL(l:List Int)(i:Nat):List Int:=((List.range l.length).filter fun b=>i.testBit b).map fun b=>l.getD b 0
theorem bits_all(a:l.length<=j):bitsTo l i j=bitsL l i:=by
 unfold bitsTo bitsL;rw[List.take_of_length_le (by simpa using a)]
theorem bits_take{y:Int}(a:l[j]?=some y):bitsTo l i (j+1)=bitsTo l i j++if i.testBit j then [y] else []:=by
 have b:j<l.length:=(List.getElem?_eq_some_iff.1 a).1;unfold bitsTo;rw[List.take_succ_eq_append_getElem (by simpa using b),List.filter_append,List.map_append];congr 1;simp only[List.getElem_range,List.filter_cons,List.filter_nil];split
 ·simp[List.getD,a]
 ·rfl
theorem range_getD(l:List Int):(List.range l.length).map (fun b=>l.getD b 0)=l:=by
 refine List.ext_getElem (by simp) fun i h1 h2=>?_;simp[List.getD,List.getElem?_eq_getElem h2]
theorem bits_len:(bitsTo l i j).length<=l.length:=by
 unfold bitsTo;rw[List.length_map];refine Nat.le_trans (List.length_filter_le _ _) ?_;rw[List.length_take,List.length_range];omega
theorem bits_sub:(bitsL l i).Sublist l:=by
 unfold bitsL;have h:((List.range l.length).filter fun b=>i.testBit b).Sublist (List.range l.length):=List.filter_sublist;have:=h.map fun b=>l.getD b 0;rwa[range_getD]at this
theorem sub_bits{m:List Int}(d:l.Nodup)(h:m.Sublist l):∃ i,i<2^l.length/\bitsL l i=m:=by
 obtain⟨i,c,hb⟩:=bits_of (fun b=>decide (l.getD b 0∈m)) l.length;refine⟨i,c,?_⟩;unfold bitsL;rw[List.filter_congr (q:=(fun x=>decide (x∈m))∘fun b=>l.getD b 0) fun b a=>hb b (List.mem_range.1 a),<- List.filter_map,range_getD];exact filter_sub h d
structure TAt(h:Cells)(a:Addr)(f:TC)(x:TF):Prop where
 f0:h.cell? (a.add 0)=some (.int .i64 x.items)
 f1:h.cell? (a.add 1)=some (.int .i64 x.lands)
 f2:h.cell? (a.add 2)=some (.int .i64 x.start)
 f3:h.cell? (a.add 3)=some (.int .i64 x.depend)
 f4:h.cell? (a.add 4)=some (.int .i64 x.refuse)
 f5:h.cell? (a.add 5)=some (.int .i64 x.turn)
 f6:h.cell? (a.add 6)=some (.slice f.p f.n f.c)
theorem TAt.rd{h h':Cells}{a:Addr}(b:Rd h h')(m:TAt h a f x):TAt h' a f x:=⟨b _ _ m.f0,b _ _ m.f1,b _ _ m.f2,b _ _ m.f3,b _ _ m.f4,b _ _ m.f5,b _ _ m.f6⟩
theorem TAt.le{h h':Cells}{a:Addr}{f:TC}{x:TF}(b:h.le h')(m:TAt h a f x):TAt h' a f x:=m.rd (Jv b)
def Found(x:TF)(i:Nat)(v:Value)(hv:Cells):Prop:=∃ a n c,v=.slice (some a) n c/\Sl IntE 1 hv (some a) n (bitsL (giving x) i)/\n<=c
def Done(v:Value)(_:Cells):Prop:=v=.bool true
def okB(x:TF)(k it d:Int)(i:Nat):Bool:=holdsB x k it d (bitsL (giving x) i)
theorem giving_ten(rt:Right x):(giving x).length<=10:=by
 have:=Dp x.events 0;have:=rt.many;unfold giving;omega
theorem c2073{hc:Cells}{K A:Nat}{Z z1 z2 z3 z4 z5 z6 C:Addr}{k it d:Int}(hk:Kinds hc)(w:TreatyR hc f x)(rt:Right x)(P:KindsOk x)(hat:TAt hc z2 f x)(hi:i<2^32)
 {ap:Option Addr}{B ac:Nat}(h0:hc.cell? Z=some (.slice ap B ac))(D:Sl IntE 1 hc ap B (giving x))(h1:hc.cell? z1=some (.int .i64 (i:Int)))(h3:hc.cell? z3=some (.int .i64 k))(h4:hc.cell? z4=some (.int .i64 it))(h5:hc.cell? z5=some (.int .i64 d))
 (O:hc.cell? z6=some (.chan (some K)))(u:hc.cell? C=some (.chan (some A))) :
  FWK XW Tryz.prog .deferred 118 #[.pointer (some Z),.pointer (some z1),.pointer (some z2),.pointer (some z3),.pointer (some z4),.pointer (some z5),.pointer (some z6),.pointer (some C)] ⟨hc,[],[],scr K A (Found x) Done (i,okB x k it d i)⟩ fun _ _=>False:=by
 generalize G:scr K A (Found x) Done (i,okB x k it d i)=J;refine w2073 _ _ _ _ _ _ _ _ XW_ok ?_;unfold n2073;have hn:=D.1;have a0:=giving_ten rt;refine t_build0 und50 inf3 fun b0 E=>?_;have H:LH.le ⟨hc,[],[],J⟩ _:=Q4 (x:=(true,.cells #[] 3 (0,0))) E;have k0:=Qm H.1 h0;refine gZ ?_;refine Jc (fun W vs h'=>LH.le ⟨hc,[],[],J⟩ h'/\∃ (j:Nat) (a:Addr) (n c:Nat),vs=[.slice (some a) n c,.int .i64 j]/\j<=B/\W=B-j/\Growing IntEnc 3 1 hc h'.get (some a) n c (bitsTo (giving x) i j))
  ⟨H,0,_,0,0,rfl,Nat.zero_le _,rfl,⟨[],⟨rfl,.inr ⟨b0,#[],rfl,Qk _ _ _,rfl,Nat.le_refl _,fun j v hv=>by simp at hv⟩⟩,by unfold bitsTo;exact .nil⟩,fun a ha=>by cases ha;exact E⟩ ?_
 rintro Y W vs h₁ V ⟨hle,j,a,n,c,rfl,hj,rfl,g⟩;have e0:=g.count IntEnc.len (by omega);have hlen:=bits_len (l:=giving x) (i:=i) (j:=j);refine yJ (fun e1=>?_) (fun e1=>?_)
 ·obtain⟨y,ya,hy,j0,e2⟩:=(D.le IntE.grow hle.1).at (i:=j) (by omega);unfold IntE at e2;have k1:=Qm hle.1 h1;refine gZ ?_;rw[bit_test hi];have q:=bits_take (i:=i) hy;refine Qt (fun b=>?_) (fun b=>?_)
  ·rw[if_pos b]at q;refine G1 (h₀:=⟨hc,[],[],J⟩) y [.int .i64 y] rfl rfl und50 inf3 rfl (by omega) (by decide) (by kernel_rfl) rfl (by simp;rfl) (by omega) g hle rfl ?_;intro p' c' m o _ N;refine gZ ?_;obtain⟨L,rfl⟩ : ∃ L,p'=some L:=by
    obtain⟨vs,⟨_,O⟩,_⟩:=N.row;rcases O with⟨_,u,_⟩|⟨r,cs,u,_⟩
    ·omega
    ·exact⟨_,u⟩
   refine Qj (V (B-(j+1)) _ _ (by omega) ⟨o,j+1,L,n+1,c',?_,by omega,rfl,by rw[q];exact N⟩);rw[Qo (by omega) (by omega)];rfl
  ·rw[if_neg (by rw[b];simp),List.append_nil]at q;refine Qj (V (B-(j+1)) _ _ (by omega) ⟨hle,j+1,a,n,c,?_,by omega,rfl,by rw[q];exact g⟩);rw[Qo (by omega) (by omega)];rfl
 ·refine gZ ?_;rw[bits_all (by omega)]at g;rw[bits_all (by omega)]at hlen;obtain⟨g0,g1,N,g3,g4,g5,g6⟩:=hat.le hle.1;have k3:=Qm hle.1 h3;have k4:=Qm hle.1 h4;have k5:=Qm hle.1 h5;refine gZ ?_;refine t_gr (c2069 (hk.le hle.1) (w.le hle.1) rt P k it d (g.sl IntEnc.len (by omega) IntEnc.e (by omega))) ?_;rintro _ m I rfl;have o:=LH.le_trans hle I;have k6:=Qm o.1 O;have Q:=Qm o.1 u;refine yI (fun b=>?_) (fun b=>?_)
  ·refine Dz k6 ?_;refine Yn ?_;have M:okB x k it d i=true:=b;have p:J=[(K,Found x i),(A,Done)]:=by rw[<- G,M];rfl
   have g7:=g.le I.1;obtain⟨vs,⟨o1,o2⟩,rows⟩:=g7.row;rcases o2 with⟨S,_⟩|⟨r,cs,S,U,o5,X,o7⟩
   ·cases S
   ·cases S;have F:hc r=none:=g.new _ rfl;refine Du (z:=.tuple #[]) (φ:=Found x i) (s:=[(A,Done)]) (hv:=fun b=>if b=r then m.get b else none) (hr:=fun b=>if b=r then none else m.get b) (o.2.2.2.trans p) ?_ (fun b=>?_) (fun b x w=>?_) ?_ (fun h=>by cases h) (fun _=>?_)
    ·funext b;unfold Cells.add;by_cases e:b=r
     ·subst e;simp[U]
     ·simp[e]
    ·by_cases e:b=r
     ·right;simp[e]
     ·left;simp[e]
    ·have t:(if b=r then m.get b else none)=some x:=w;split at t
     ·rename_i e;subst e;rw[U]at t;cases t;rfl
     ·cases t
    ·refine⟨_,_,_,rfl,?_,X⟩;refine rows.sl IntEnc.len (by omega) IntEnc.e (el:=3) ⟨o1,.inr ⟨r,cs,rfl,?_,o5,X,o7⟩⟩ (by omega);show (if r=r then m.get r else none)=_;rw[if_pos rfl];exact U
    ·have hz:C.block≠r:=by
      intro e;unfold Cells.cell? at u;rw[e,F]at u;cases u
     have R:Cells.cell? (fun b=>if b=r then none else m.get b) C=some (.chan (some A)):=by
      have hb:(fun b=>if b=r then none else m.get b) C.block=m.get C.block:=if_neg hz;unfold Cells.cell? at Q ⊢;rw[hb];exact Q
     refine Dz R ?_;refine Yn ?_;refine Du (z:=.tuple #[]) (φ:=Done) (s:=[]) (hv:=fun _=>none) (hr:=fun b=>if b=r then none else m.get b) rfl ?_ (fun r=>.inl rfl) (fun r x w=>by cases w) rfl (fun _=>rfl) (fun h=>absurd rfl h);funext r;rfl
  ·refine Dz Q ?_;refine Yn ?_;have M:okB x k it d i=false:=b;have p:J=[(A,Done)]:=by rw[<- G,M];rfl
   refine Du (z:=.tuple #[]) (φ:=Done) (s:=[]) (hv:=fun _=>none) (hr:=m.get) (o.2.2.2.trans p) ?_ (fun r=>.inl rfl) (fun r x w=>by cases w) rfl (fun _=>rfl) (fun h=>absurd rfl h);funext r;rfl
end
section
open Go.TM.Tr
attribute [local irreducible] T.wp CV FWK
def BestR(h:Cells)(x:TF)(k it d:Int)(rem:List (Nat×Bool))(p:Option Addr)(n:Nat)(held:Bool):Prop :=
 (held=false/\p=none/\n=0/\∀ j,j<2^(giving x).length->(j,true)∉rem->okB x k it d j=false) \/
 (held=true/\∃ i a,p=some a/\i<2^(giving x).length/\okB x k it d i=true/\Sl IntE 1 h (some a) n (bitsL (giving x) i)/\∀ j,j<2^(giving x).length->(j,true)∉rem->okB x k it d j=true->fewerF (bitsL (giving x) i) (bitsL (giving x) j)<=0)
def weight:Nat×Bool->Nat|(_,true)=>2|(_,false)=>1
def NeedsR(h':Cells)(x:TF)(k it d:Int)(r:Value):Prop :=
 (Jo x k it d≠0/\r=.tuple #[.slice none 0 0,.bool false,.int .i64 (Jo x k it d)]) \/
 (Jo x k it d=0/\¬ 0<=dateOn x k it d/\r=.tuple #[.slice none 0 0,.bool false,.int .i64 0]) \/
 (Jo x k it d=0/\0<=dateOn x k it d/\∃ p n c,r=.tuple #[.slice p n c,.bool true,.int .i64 0]/\Sl IntE 1 h' p n (needT x k it d)/\n<=c)
variable {h h':Cells}{x:TF}{k it d:Int}{p:Option Addr}{n i:Nat}{b:Bool}
theorem BestR.done(v:Ok x)(hb:BestR h x k it d [] p n b):(¬ 0<=dateOn x k it d/\b=false/\p=none/\n=0)\/(0<=dateOn x k it d/\b=true/\Sl IntE 1 h p n (needT x k it d)):=by
 have o:(giving x).Nodup:=(Gd x.events 0).imp fun h=>by omega
 rcases hb with⟨h1,h2,h3,f⟩|⟨h1,i,a,h2,h3,f,h5,s⟩
 ·left;refine⟨fun e=>?_,h1,h2,h3⟩;obtain⟨q,r,_⟩:=need_spec (k:=k) (i:=it) (d:=d) e;obtain⟨j,g,c⟩:=sub_bits o r;have:=f j g (by simp);unfold okB at this;rw[c,q]at this;cases this
 ·have e:0<=dateOn x k it d:=by
   by_cases e:0<=dateOn x k it d
   ·exact e
   ·have:=none_holds v e (k:=k) (i:=it) (d:=d) (bits_sub (l:=giving x) (i:=i));unfold okB at f;rw[this]at f;cases f
  refine .inr ⟨e,h1,?_⟩;have:=need_one e (l:=bitsL (giving x) i) bits_sub f fun m hm t=>by
   obtain⟨j,g,c⟩:=sub_bits o hm;have:=s j g (by simp) (by unfold okB;rw[c];exact t);rwa[c]at this
  rw[h2,<- this];exact h5
theorem Sl.same{a b:List Int}(f:Sl IntE 1 h p n a)(hb:Sl IntE 1 h p n b):a=b:=by
 refine List.ext_getElem (by rw[<- f.1,<- hb.1]) fun i h1 h2=>?_;obtain⟨x,c,g,m,j⟩:=f.at (i:=i) (by rw[f.1];exact h1);obtain⟨y,d,k,l,e⟩:=hb.at (i:=i) (by rw[hb.1];exact h2);rw[m]at l;cases l;unfold IntE at j e;rw[j]at e;cases e;rw[List.getElem?_eq_getElem h1]at g;rw[List.getElem?_eq_getElem h2]at k;exact(Option.some.inj g).trans (Option.some.inj k).symm
theorem BestR.rd{h h':Cells}(hr:Rd h h'){x:TF}{k it d:Int}{rem:List (Nat×Bool)}{p:Option Addr}{n:Nat}{b:Bool}(hb:BestR h x k it d rem p n b):BestR h' x k it d rem p n b:=by
 rcases hb with hb|⟨h1,i,a,h2,h3,c,h5,e⟩
 ·exact .inl hb
 ·exact .inr ⟨h1,i,a,h2,h3,c,h5.rd IntE.grow hr,e⟩
theorem mem_but{a b:List (Nat×Bool)}{j:Nat}(h:(j,true)∉a++(i,false)::b):j=i\/(j,true)∉a++(i,true)::b:=by
 by_cases e:j=i
 ·exact .inl e
 ·right;simp only[List.mem_append,List.mem_cons,Prod.mk.injEq,not_or]at h ⊢;refine⟨h.1,by simp[e],h.2.2⟩
theorem BestR.drop{e f:List (Nat×Bool)}(hb:BestR h x k it d (e++(i,false)::f) p n b):BestR h x k it d (e++f) p n b:=by
 have key:∀ j,(j,true)∉e++f->(j,true)∉e++(i,false)::f:=by
  intro j c;simp only[List.mem_append,List.mem_cons,Prod.mk.injEq,not_or]at c ⊢;exact⟨c.1,by simp,c.2⟩
 rcases hb with⟨h1,h2,h3,g⟩|⟨h1,o,a,h2,h3,g,h5,m⟩
 ·exact .inl ⟨h1,h2,h3,fun j c l=>g j c (key j l)⟩
 ·exact .inr ⟨h1,o,a,h2,h3,g,h5,fun j c l=>m j c (key j l)⟩
theorem BestR.take{m o:List (Nat×Bool)}{q:Nat}{a:Addr}(hb:BestR h x k it d (m++(i,true)::o) p n b)(s:okB x k it d i=true)(e:i<2^(giving x).length)(t:Sl IntE 1 h' (some a) q (bitsL (giving x) i))
 (hle:b=false\/∀ j,Sl IntE 1 h p n (bitsL (giving x) j)->fewerF (bitsL (giving x) i) (bitsL (giving x) j)<=0):BestR h' x k it d (m++(i,false)::o) (some a) q true:=by
 refine .inr ⟨rfl,i,a,rfl,e,s,t,fun j l c f=>?_⟩;rcases mem_but c with rfl|c
 ·exact fewer_self _
 ·rcases hb with⟨h1,h2,h3,g⟩|⟨h1,u,v,h2,h3,g,h5,r⟩
  ·have:=g j l c;rw[this]at f;cases f
  ·have:=hle.resolve_left (by rw[h1];simp) u (by rw[h2];exact h5);exact Hr this (r j l c f)
theorem BestR.stay(hr:Rd h h'){e f:List (Nat×Bool)}(hb:BestR h x k it d (e++(i,true)::f) p n true)
 (hle:∀ j,Sl IntE 1 h p n (bitsL (giving x) j)->fewerF (bitsL (giving x) j) (bitsL (giving x) i)<=0):BestR h' x k it d (e++(i,false)::f) p n true:=by
 rcases hb with⟨h1,h2,h3,b⟩|⟨h1,c,g,h2,h3,b,h5,l⟩
 ·cases h1
 ·refine .inr ⟨rfl,c,g,h2,h3,b,h5.rd IntE.grow hr,fun j m a o=>?_⟩;rcases mem_but a with rfl|a
  ·exact hle c (by rw[h2];exact h5)
  ·exact l j m a o
def AllT(x:TF)(k it d:Int)(j:Nat):List (Nat×Bool):=(List.range j).map fun i=>(i,okB x k it d i)
theorem c2044{h:LH}(j1:h.chans=[])(x1:h.pend=[])(hk:Kinds h.get){f:TC}(hx:TreatyR h.get f x)(k it d:Int) :
  FW XT Tryz.prog 61 #[treatyV f x,k,it,d] h fun r h'=>Rd h.get h'.get/\h'.chans=[]/\h'.pend=[]/\h'.todo=h.todo/\NeedsR h'.get x k it d r:=by
 refine w2044 W9 ?_;refine Z5 fun r hr=>?_;have n2:h.le _:=Q4 (x:=(true,.cells #[.int .i64 x.items,.int .i64 x.lands,.int .i64 x.start,.int .i64 x.depend,.int .i64 x.refuse,.int .i64 x.turn,.slice f.p f.n f.c] 38 (0,0))) hr;have hat:TAt (h.get.upd r (true,.cells #[.int .i64 x.items,.int .i64 x.lands,.int .i64 x.start,.int .i64 x.depend,.int .i64 x.refuse,.int .i64 x.turn,.slice f.p f.n f.c] 38 (0,0))) ⟨r,0,none⟩ f x :=
  ⟨Q5 rfl,Q5 rfl,Q5 rfl,Q5 rfl,Q5 rfl,Q5 rfl,Q5 rfl⟩
 generalize u3:({ h with get:=h.get.upd r (true,.cells #[.int .i64 x.items,.int .i64 x.lands,.int .i64 x.start,.int .i64 x.depend,.int .i64 x.refuse,.int .i64 x.turn,.slice f.p f.n f.c] 38 (0,0)) }:LH)=h0 at n2 ⊢;have hat:TAt h0.get ⟨r,0,none⟩ f x:=by rw[<- u3];exact hat
 refine Z5 fun r1 h4=>?_;have o2:h0.le _:=Q4 (x:=(true,.cells #[.int .i64 k] 3 (0,0))) h4;have z1:Cells.cell? (h0.get.upd r1 (true,.cells #[.int .i64 k] 3 (0,0))) ⟨r1,0,none⟩=some (.int .i64 k):=Q5 rfl;refine Z5 fun r2 j4=>?_;have q0:=Q4 (h:={ h0 with get:=h0.get.upd r1 (true,.cells #[.int .i64 k] 3 (0,0)) }) (x:=(true,.cells #[.int .i64 it] 3 (0,0))) j4;have z2:Cells.cell? ((h0.get.upd r1 (true,.cells #[.int .i64 k] 3 (0,0))).upd r2 (true,.cells #[.int .i64 it] 3 (0,0))) ⟨r2,0,none⟩=some (.int .i64 it):=Q5 rfl;refine Z5 fun r3 k4=>?_;have W:=Q4 (h:={ h0 with get:=(h0.get.upd r1 (true,.cells #[.int .i64 k] 3 (0,0))).upd r2 (true,.cells #[.int .i64 it] 3 (0,0)) }) (x:=(true,.cells #[.int .i64 d] 3 (0,0))) k4;have z3:Cells.cell? (((h0.get.upd r1 (true,.cells #[.int .i64 k] 3 (0,0))).upd r2 (true,.cells #[.int .i64 it] 3 (0,0))).upd r3 (true,.cells #[.int .i64 d] 3 (0,0))) ⟨r3,0,none⟩=some (.int .i64 d):=Q5 rfl;have z1:=Qm (LH.le_trans q0 W).1 z1;have z2:=Qm W.1 z2;have hat:=hat.le (LH.le_trans o2 (LH.le_trans q0 W)).1;obtain⟨g0,g1,g2,g3,g4,g5,g6⟩:=id hat;have g:=LH.le_trans n2 (LH.le_trans o2 (LH.le_trans q0 W));generalize n1:({ h0 with get:=((h0.get.upd r1 (true,.cells #[.int .i64 k] 3 (0,0))).upd r2 (true,.cells #[.int .i64 it] 3 (0,0))).upd r3 (true,.cells #[.int .i64 d] 3 (0,0)) }:LH)=h3 at g ⊢;have e3:h3.get=((h0.get.upd r1 (true,.cells #[.int .i64 k] 3 (0,0))).upd r2 (true,.cells #[.int .i64 it] 3 (0,0))).upd r3 (true,.cells #[.int .i64 d] 3 (0,0)):=by rw[<- n1]
 rw[<- e3]at z1 z2 z3 hat g0 g1 g2 g3 g4 g5 g6;clear n1 e3;refine gZ ?_;refine t_pu (c2066 (hk.le g.1) (hx.le g.1) k it d) ?_;refine yI (fun e=>?_) (fun e=>?_)
 ·exact Qn ⟨Jv g.1,by rw[g.2.1,j1],by rw[g.2.2.1,x1],g.2.2.2,.inl ⟨by simpa using e,rfl⟩⟩
 have ea:Jo x k it d=0:=by simpa using e
 have m1:=(Gu (askedItem_ok (askedAll_ok ea).1).1).1;have rt:=Right.of m1;have o1:=KindsOk.of m1;have q4:=giving_ten rt;refine gZ ?_;refine t_gr (c2067 (hk.le g.1) (hx.le g.1) o1 rt.many) ?_;rintro _ m4 l4 ⟨ap,an,ac,rfl,S,_⟩;have o3:=S.1;refine gZ ?_;refine t_newSt2 rfl fun r4 Q x2 _ _ z0=>?_;have u2:=LH.le_trans l4 x2;refine Jk (fun vs h'=>∃ b1 b2 D E,vs=[.pointer (some ⟨b1,0,none⟩),.pointer (some ⟨b2,0,none⟩)]/\Opening 154 206 Q h' (some D) (some E) (some (b1,true)) (some (b2,true))) ?_ ?_
 ·have O:Opening 154 206 Q Q none none none none:=Opening.start
  repeat' first
   | refine Wo ?_ ?_
   | (refine op_new1 (by assumption) ?_;intro _ _ _)
   | (refine op_new2 (by assumption) ?_;intro _ _ _)
   | (refine op_chan1 undCI inf50 (by assumption) ?_;intro _ _ _)
   | (refine op_chan2 undCB inf4 (by assumption) ?_;intro _ _ _)
   | refine t_unC ?_
   | (refine op_store1 (by assumption) ?_;intro _ _)
   | (refine op_store2 (by assumption) ?_;intro _ _)
   | exact Qj ⟨_,_,_,_,rfl,by assumption⟩
 rintro _ F ⟨b1,b2,D,E,rfl,O⟩;have s0:=O.le;have A:=LH.le_trans u2 s0;have t:=LH.le_trans g A;have z0:=Qm s0.1 z0;have z1:=Qm A.1 z1;have z2:=Qm A.1 z2;have z3:=Qm A.1 z3;have hat:=hat.le A.1;have S:=S.le IntE.grow (LH.le_trans x2 s0).1;have k3:F.get.cell? ⟨b1,0,none⟩=some (.chan (some D)):=by
  have:=(O.hb1 b1 true rfl).2;simp[Cells.cell?,this]
 have l3:F.get.cell? ⟨b2,0,none⟩=some (.chan (some E)):=by
  have:=(O.hb2 b2 true rfl).2;simp[Cells.cell?,this]
 have hq:=O.ne D E rfl rfl;have y3:=O.hc1 D rfl;have a4:=O.hc2 E rfl;refine gZ ?_;rw[sets_wrap (by omega)];have e0:2^an<=2^10:=Nat.pow_le_pow_right (by omega) (by omega);have n3:(2:Nat)^an=2^(giving x).length:=by rw[o3]
 have I:0<2^an:=Nat.pow_pos (by omega);generalize hN:(2:Nat)^an=N at e0 n3 I ⊢;refine gZ ?_;refine Jc (fun mm vs h'=>∃ j:Nat,vs=[.int .i64 j]/\j<=N/\mm=N-j/\Rd F.get h'.get/\h'.todo=h.todo/\h'.pend=(AllT x k it d j).map (scr D E (Found x) Done)/\Yz D E h'/\(0<j->h'.chans=[E,D]))
  ⟨0,rfl,Nat.zero_le _,rfl,Rd.refl _,t.2.2.2,by rw[t.2.2.1,x1];rfl,.inl ⟨by rw[t.2.1,j1],hq,⟨0,y3⟩,0,a4⟩,fun hh=>absurd hh (by omega)⟩ ?_
 rintro Y mm vs o4 hY ⟨j,rfl,hj,rfl,b3,j3,u0,j0,m3⟩;refine yJ (fun e1=>?_) (fun e1=>?_)
 ·refine t_newSt2 rfl fun r5 w R _ _ z5=>?_;have B:=b3.trans (Jv R.1);refine t_spawn (spawnW_two D E (s:=scr D E (Found x) Done (j,okB x k it d j)) (by rw[R.2.2.1,u0];intro hm;obtain⟨z,_,hz⟩:=List.mem_map.1 hm;unfold scr at hz;split at hz<;>cases hz) (j0.le R) ?_ ?_ (fun hc y1=>?_) (fun G r9 c9 t9 p9=>?_))
  ·unfold scr;split<;>simp
  ·intro y hy;unfold scr at hy;split at hy
   ·simp at hy;rcases hy with rfl|rfl<;>simp
   ·simp at hy;simp[hy]
  ·have m:=B.trans y1;exact c2073 ((hk.le t.1).rd m) ((hx.le t.1).rd m) rt o1 (hat.rd m) (by omega) (m _ _ z0) (S.rd IntE.grow m) (y1 _ _ z5) (m _ _ z1) (m _ _ z2) (m _ _ z3) (m _ _ k3) (m _ _ l3)
  ·refine Qj (hY (N-(j+1)) _ _ (by omega) ⟨j+1,?_,by omega,rfl,B.trans r9,(t9.trans R.2.2.2).trans j3,?_,.inr c9,fun _=>c9⟩)
   ·rw[Qo (by omega) (by omega)];rfl
   ·rw[p9,R.2.2.1,u0,AllT,AllT,List.range_succ,List.map_append,List.map_append];rfl
 ·refine gZ ?_;have v3:j=N:=by omega
  subst v3;refine Jc (fun mm vs h'=>∃ (rem:List (Nat×Bool)) (b:Bool) (p:Option Addr) (n c:Nat),vs=[.slice p n c,.bool b,.int .i64 rem.length]/\rem.length<=j/\mm=(rem.map weight).sum/\(∀ i o,(i,o)∈rem->i<j)/\(∀ i,(i,true)∈rem->okB x k it d i=true)/\Rd F.get h'.get/\h'.todo=h.todo/\h'.pend=rem.map (scr D E (Found x) Done) /\
    ((rem≠[]/\h'.chans=[E,D])\/(rem=[]/\h'.chans=[]))/\BestR h'.get x k it d rem p n b/\n<=c/\(b=false->c=0))
   ⟨AllT x k it d j,false,none,0,0,by simp[AllT],by simp[AllT],rfl,?_,?_,b3,j3,u0,.inl ⟨?_,m3 I⟩,.inl ⟨rfl,rfl,rfl,?_⟩,Nat.le_refl _,fun _=>rfl⟩ ?_
  ·intro i o X;simp[AllT]at X;omega
  ·intro i X;simp[AllT]at X;exact(by obtain⟨a0,a1,a2,a3⟩:=X;rw[<- a2];exact a3)
  ·intro hh;have:=congrArg List.length hh;simp[AllT]at this;omega
  ·intro i X hn;cases ho:okB x k it d i with
   | false=>rfl
   | true=>exact absurd (List.mem_map.2 ⟨i,List.mem_range.2 (by omega),by rw[ho]⟩) hn
  rintro Y2 mm vs w x0 ⟨rem,b,p,n,c,rfl,hlen,rfl,u,n0,B,w0,y2,Z,q,J,y0⟩;refine yJ (fun e2=>?_) (fun e2=>?_)
  ·have p1:rem≠[]:=by rintro rfl;simp at e2
   have k0:w.chans=[E,D]:=by
    rcases Z with⟨_,a⟩|⟨a,_⟩
    ·exact a
    ·exact absurd a p1
   refine Dz (B _ _ k3) ?_;refine Dz (B _ _ l3) ?_;refine Yn (commW_sel (φ:=Found x) (ψ:=Done) y2 k0 hq p1 ?_ ?_)
   ·rintro U i V v G C ht o0 s3 ⟨hv,⟨a,n',c',rfl,M,K⟩,hle⟩ L;have m0:commResult #[Conc.rcase D (.slice none 0 0),Conc.rcase E (.bool false)] .select ((0:Nat):Int) (.slice (some a) n' c') true=.tuple #[.int .i64 0,.bool true,.slice (some a) n' c',.bool false]:=by simp[commResult,Conc.rcase,goInt]
    rw[m0];subst C;have H:=Jv L;have M:=M.rd IntE.grow (Jv hle);have X:i<2^(giving x).length:=by have:=u i true (by simp);omega
    have u1:okB x k it d i=true:=n0 i (by simp);have next:∀ p' n' c',BestR G.get x k it d (U++(i,false)::V) p' n' true->n'<=c'->Y2 [.slice p' n' c',.bool true,.int .i64 ((U++(i,true)::V).length:Nat)] G:=by
     intro p' n' c' hb l0;refine x0 (((U++(i,false)::V).map weight).sum) _ _ (by simp[weight]) ⟨U++(i,false)::V,true,p',n',c',by simp,by simpa using hlen,rfl,?_,?_,B.trans H,ht.trans w0,o0,.inl ⟨by simp,s3⟩,hb,l0,fun h=>by cases h⟩
     ·intro i' o l;simp only[List.mem_append,List.mem_cons,Prod.mk.injEq]at l;rcases l with h1|h1|h1
      ·exact u i' o (by simp[h1])
      ·rw[h1.1];exact u i true (by simp)
      ·exact u i' o (by simp[h1])
     ·intro i' l;simp at l;exact n0 i' (by rcases l with h1|h1<;>simp[h1])
    refine yT ?_;refine Qt (fun e3=>?_) (fun e3=>?_)
    ·exact Qj (next _ _ _ (q.take u1 X M (.inl (by simpa using e3))) K)
    ·have q3:b=true:=by simpa using e3
     subst q3;obtain⟨k',a',x3,j2⟩ : ∃ k' a',p=some a'/\Sl IntE 1 w.get (some a') n (bitsL (giving x) k'):=by
      rcases q with⟨b1,_⟩|⟨_,k',a',b1,_,_,b4,_⟩
      ·cases b1
      ·exact⟨k',a',b1,b4⟩
     subst x3;refine t_pu (c2074 M (j2.rd IntE.grow H)) ?_;have same:∀ k2,Sl IntE 1 w.get (some a') n (bitsL (giving x) k2)->bitsL (giving x) k2=bitsL (giving x) k':=fun k2 h3=>Sl.same h3 j2;refine yJ (fun e4=>?_) (fun e4=>?_)
     ·refine Qj (next _ _ _ (q.take u1 X M (.inr fun k2 h3=>?_)) K);rw[same k2 h3];omega
     ·refine Qj (next _ _ _ (q.stay H fun k2 h3=>?_) J);rw[same k2 h3,Uk];omega
   ·intro U i V v G C ht o0 m2 ⟨hv,P⟩ L;have P:v=.bool true:=P;subst P;have m0:commResult #[Conc.rcase D (.slice none 0 0),Conc.rcase E (.bool false)] .select ((1:Nat):Int) (.bool true) true=.tuple #[.int .i64 1,.bool true,.slice none 0 0,.bool true]:=by simp[commResult,Conc.rcase,goInt]
    rw[m0];subst C;have H:=Jv L;have hl:(U++(i,false)::V).length=(U++V).length+1:=by simp;omega
    refine gZ ?_;refine Qj (x0 (((U++V).map weight).sum) _ _ (by simp[weight]) ⟨U++V,b,p,n,c,?_,by omega,rfl,?_,?_,B.trans H,ht.trans w0,o0,m2,(q.drop).rd H,J,y0⟩)
    ·rw[hl,Qo (by omega) (by omega)];congr 3;congr 1;omega
    ·intro i' o l;simp only[List.mem_append]at l;exact u i' o (by rcases l with h1|h1<;>simp[h1])
    ·intro i' l;simp only[List.mem_append]at l;exact n0 i' (by rcases l with h1|h1<;>simp[h1])
  ·refine gZ ?_;have p0:rem=[]:=List.length_eq_zero_iff.1 (by omega);subst p0;have k0:w.chans=[]:=by
    rcases Z with⟨a,_⟩|⟨_,a⟩
    ·exact absurd rfl a
    ·exact a
   refine Qn ⟨(Jv t.1).trans B,k0,y2,w0,.inr ?_⟩;rcases q.done rt.ok with⟨a1,rfl,rfl,rfl⟩|⟨a1,rfl,a2⟩
   ·have:=y0 rfl;subst this;exact .inl ⟨ea,a1,rfl⟩
   ·exact .inr ⟨ea,a1,_,_,_,rfl,a2,J⟩
end
section
open Go.TM.Tr
attribute [local irreducible] T.wp CV FWK
variable {h:LH}{p q:Option Addr}{n c m d:Nat}
theorem c2020{a b:List Bool}(f:Sl BoolE 1 h.get p n a)(hb:Sl BoolE 1 h.get q m b):Pu Tryz.prog 62 #[.slice p n c,.slice q m d] h (.bool (decide (a=b))):=by
 refine w2020 Qr ?_;have C:=f.1;have hm:=hb.1;have v:=f.2.1;have u:=hb.2.1;refine Qt (fun e=>?_) (fun e=>?_)
 ·have:a≠b:=by rintro rfl;simp at e;omega
  exact Qn ⟨by simp[this],rfl⟩
 have w:n=m:=by simp at e;omega
 refine Jc (fun o vs h'=>h=h'/\∃ i:Nat,vs=[.bool false,.int .i64 i]/\i<=n/\o=n-i/\a.take i=b.take i) ⟨rfl,0,rfl,Nat.zero_le _,rfl,rfl⟩ ?_;rintro Y o vs _ r ⟨rfl,i,rfl,B,rfl,hc⟩;refine yJ (fun e=>?_) (fun e=>?_)
 ·obtain⟨x,z,l,s,j⟩:=f.at (i:=i) (by omega);obtain⟨y,A,g,t,k⟩:=hb.at (i:=i) (by omega);unfold BoolE at j k;rw[Gv]at j k;refine yI (fun b1=>?_) (fun b1=>?_)
  ·refine gZ ?_;have:a≠b:=by rintro rfl;rw[l]at g;cases g;simp at b1
   exact Qn ⟨by simp[this],rfl⟩
  ·have b2:x=y:=by cases x<;>cases y<;>simp_all
   refine Qj (r (n-(i+1)) _ _ (by omega) ⟨rfl,i+1,?_,by omega,rfl,?_⟩)
   ·rw[Qo (by omega) (by omega)];rfl
   ·rw[List.take_add_one,List.take_add_one,hc,l,g,b2]
 ·refine gZ ?_;rw[List.take_of_length_le (by omega),List.take_of_length_le (by omega)]at hc;exact Qn ⟨by simp[hc],rfl⟩
theorem c2025{a b:List Sp}(f:Sl SpE 2 h.get p n a)(hb:Sl SpE 2 h.get q m b):Pu Tryz.prog 55 #[.slice p n c,.slice q m d] h (.bool (decide (a=b))):=by
 refine w2025 Qr ?_;have E:=f.1;have hm:=hb.1;have t:=f.2.1;have s:=hb.2.1;refine Qt (fun e=>?_) (fun e=>?_)
 ·have:a≠b:=by rintro rfl;simp at e;omega
  exact Qn ⟨by simp[this],rfl⟩
 have u:n=m:=by simp at e;omega
 refine Jc (fun k vs h'=>h=h'/\∃ i:Nat,vs=[.bool false,.int .i64 i]/\i<=n/\k=n-i/\a.take i=b.take i) ⟨rfl,0,rfl,Nat.zero_le _,rfl,rfl⟩ ?_;rintro Y k vs _ l ⟨rfl,i,rfl,D,rfl,hc⟩;refine yJ (fun e=>?_) (fun e=>?_)
 ·obtain⟨x,v,j,o,z,B⟩:=f.at (i:=i) (by omega);obtain⟨y,w,g,r,A,C⟩:=hb.at (i:=i) (by omega);refine gZ ?_;refine t_ne2 two30 g30 ?_;refine yI (fun b1=>?_) (fun b1=>?_)
  ·refine gZ ?_;have:a≠b:=by rintro rfl;rw[j]at g;cases g;simp at b1
   exact Qn ⟨by simp[this],rfl⟩
  ·have b2:x=y:=by obtain⟨F,G⟩:=x;obtain⟨H,I⟩:=y;simp at b1;simp[b1]
   refine Qj (l (n-(i+1)) _ _ (by omega) ⟨rfl,i+1,?_,by omega,rfl,?_⟩)
   ·rw[Qo (by omega) (by omega)];rfl
   ·rw[List.take_add_one,List.take_add_one,hc,j,g,b2]
 ·refine gZ ?_;rw[List.take_of_length_le (by omega),List.take_of_length_le (by omega)]at hc;exact Qn ⟨by simp[hc],rfl⟩
end
end Go.Y.Tre
section
namespace Go.Y
set_option maxHeartbeats 0
set_option linter.unusedVariables false
variable {X:XP} {h:LH} {A:Value->LH->Prop}
variable {a b c d e f g i j k l m:Int}{n o p q r s t u v w x y z:Nat}{B C D E F G H I J K L M:Option Addr}
theorem w2016:FX X 14 #[.agg #[a,b,c,d,e,f,.slice B n o]] h A (bif decide ((↑n:Int)>20) then .rt (.bool true) else .loop [false,.int .i64 0] (fun g=>.popB g fun j g=>.pi g fun i g=>.unNil g (bif decide (i<(↑n:Int)) then .need (0<=i/\i<(↑n:Int)) (.someA B fun k=>.loadS ((k.add (i.toNat*5)).add 3) fun p l m=>bif decide ((↑l:Int)>20) then .rn [true,i] else .ag [j,.int .i64 (wrap .i64 (i+1))]) else .bk [j,i])) (fun g=>.popB g fun j g=>.pi g fun i g=>.unNil g (.rt (.bool false))) (fun g=>.popB g fun j g=>.pi g fun i g=>.unNil g (.rt (.bool j))) fun q r=>.fail):=fk [1] [⟨0,[(2,.bool),(3,.int .i64)],[1],[],[],[]⟩] [] Tryz.f14
theorem w2017  : FX X 15 #[] h A (.cl 56 #[] fun b=>.unAgg b fun g=>.pi g fun c a=>.pi a fun i a=>.pi a fun j a=>.pi a fun k a=>.pi a fun l a=>.pi a fun m a=>.popS a fun d n e a=>.unNil a (.cT 57 #[.agg #[c,i,j,k,l,m,.slice d n e],.int .i64 0,.int .i64 15] fun b a=>.unS b fun t r0 L=>.unCons a fun b a=>.ui b fun s0=>.unNil a (.cT 57 #[.agg #[c,i,j,k,l,m,.slice d n e],.int .i64 1,.int .i64 40] fun b a=>.unS b fun y t0 R=>.unCons a fun b a=>.ui b fun a0=>.unNil a (.cT 58 #[.agg #[c,i,j,k,l,m,.slice d n e],.int .i64 0,.int .i64 18] fun b a=>.unS b fun z b0 S=>.unCons a fun b a=>.ui b fun c0=>.unNil a (.cT 58 #[.agg #[c,i,j,k,l,m,.slice d n e],.int .i64 0,.int .i64 44] fun b a=>.unS b fun B d0 U=>.unCons a fun b a=>.ui b fun e0=>.unNil a (.cT 59 #[.agg #[c,i,j,k,l,m,.slice d n e],.int .i64 0,.int .i64 0] fun b a=>.unS b fun C f0 V=>.unCons a fun b a=>.ui b fun g0=>.unNil a (.cT 59 #[.agg #[c,i,j,k,l,m,.slice d n e],.int .i64 0,.int .i64 1] fun b a=>.unS b fun D i0 W=>.unCons a fun b a=>.ui b fun j0=>.unNil a (.cT 60 #[.agg #[c,i,j,k,l,m,.slice d n e],.int .i64 1,.int .i64 45] fun b a=>.unS b fun E k0 Y=>.unCons a fun b a=>.ui b fun l0=>.unNil a (.cT 60 #[.agg #[c,i,j,k,l,m,.slice d n e],.int .i64 1,.int .i64 46] fun b a=>.unS b fun x0 m0 y0=>.unCons a fun b a=>.ui b fun o0=>.unNil a (.cT 61 #[.agg #[c,i,j,k,l,m,.slice d n e],.int .i64 0,.int .i64 0,.int .i64 44] fun b a=>.unS b fun d c e=>.unCons a fun b a=>.unB b fun f=>.unCons a fun b a=>.ui b fun p0=>.unNil a (.blk (bif s0 != 0 then .rn [false] else bif a0 != 0 then .rn [false] else bif c0 != 0 then .rn [false] else bif e0 != 0 then .rn [false] else bif g0 != 0 then .rn [false] else bif j0 != 0 then .rn [false] else bif l0 != 0 then .rn [false] else bif o0 != 0 then .rn [false] else bif p0 != 0 then .rn [false] else .ag [false]) (fun a=>.popB a fun G a=>.unNil a (.blk (.sem false (Instr.buildSlice 122 3 #[(0,.bool true),(1,.bool false),(2,.bool true)]) fun b=>.unS b fun F o Z=>.cB 62 #[.slice t r0 L,.slice F o Z] fun H=>bif !H then .rn [false] else .sem false (Instr.buildSlice 122 3 #[(0,.bool false),(1,.bool true),(2,.bool false)]) fun b=>.unS b fun u p M=>.cB 62 #[.slice y t0 R,.slice u p M] fun I=>bif !I then .rn [false] else .sem false (Instr.buildSlice 47 3 #[(0,.int .i64 3),(1,.int .i64 (-1)),(2,.int .i64 12)]) fun b=>.unS b fun v q N=>.cB 30 #[.slice z b0 S,.slice v q N] fun J=>bif !J then .rn [false] else .sem false (Instr.buildSlice 47 3 #[(0,.int .i64 3),(1,.int .i64 12),(2,.int .i64 (-1))]) fun b=>.unS b fun w r O=>.cB 30 #[.slice B d0 U,.slice w r O] fun K=>bif !K then .rn [false] else bif !f then .rn [false] else .sem false (Instr.buildSlice 47 2 #[(0,.int .i64 0),(1,.int .i64 5)]) fun b=>.unS b fun x s Q=>.cB 30 #[.slice d c e,.slice x s Q] fun f=>bif !f then .rn [false] else .ag [G]) (fun a=>.popB a fun f a=>.unNil a (.cl 63 #[.int .i64 12,.int .i64 39] fun b=>.unAgg b fun g=>.pi g fun c a=>.pi a fun o a=>.unNil a (.cl 63 #[.int .i64 44,.int .i64 9999] fun b=>.unAgg b fun g=>.pi g fun p a=>.pi a fun q a=>.unNil a (.sem false (Instr.buildSlice 22 2 #[(0,.agg #[c,o]),(1,.agg #[p,q])]) fun b=>.unS b fun d c e=>.cB 55 #[.slice C f0 V,.slice d c e] fun f=>bif f then .cl 63 #[.int .i64 12,.int .i64 14] fun b=>.unAgg b fun g=>.pi g fun c a=>.pi a fun r a=>.unNil a (.cl 63 #[.int .i64 25,.int .i64 9999] fun b=>.unAgg b fun g=>.pi g fun s a=>.pi a fun q0 a=>.unNil a (.sem false (Instr.buildSlice 22 2 #[(0,.agg #[c,r]),(1,.agg #[s,q0])]) fun b=>.unS b fun d c e=>.cB 55 #[.slice D i0 W,.slice d c e] fun f=>bif f then .sem false (Instr.buildSlice 47 1 #[(0,.int .i64 0)]) fun b=>.unS b fun d c e=>.cB 30 #[.slice E k0 Y,.slice d c e] fun f=>bif f then .rt (.bool ((↑m0:Int)==0)) else .rt (.bool false) else .rt (.bool false))) else .rt (.bool false))))) (fun a=>.popB a fun f a=>.unNil a (.rt (.bool f))) fun u0 v0=>.fail)) (fun a=>.popB a fun f a=>.unNil a (.rt (.bool f))) fun u0 v0=>.fail))))))))))):=fk [1] [] [⟨15,[(0,.bool)],[1],[],[],[]⟩,⟨13,[(0,.bool)],[1],[],[],[]⟩] Tryz.f15
theorem w2048  : FX X 56 #[] h A (.sem false (Instr.buildSlice 47 3 #[(0,.int .i64 0),(1,.int .i64 1),(2,.int .i64 2)]) fun a=>.unS a fun b d c=>.sem false (Instr.buildSlice 47 1 #[(0,.int .i64 1)]) fun a=>.unS a fun e x o=>.sem false (Instr.buildSlice 47 1 #[(0,.int .i64 1)]) fun a=>.unS a fun f y p=>.sem false (Instr.buildSlice 47 1 #[(0,.int .i64 2)]) fun a=>.unS a fun g z q=>.sem false (Instr.buildSlice 47 1 #[(0,.int .i64 0)]) fun a=>.unS a fun i B r=>.sem false (Instr.buildSlice 47 1 #[(0,.int .i64 0)]) fun a=>.unS a fun j C s=>.sem false (Instr.buildSlice 47 2 #[(0,.int .i64 0),(1,.int .i64 1)]) fun a=>.unS a fun k D t=>.sem false (Instr.buildSlice 47 1 #[(0,.int .i64 1)]) fun a=>.unS a fun l E u=>.sem false (Instr.buildSlice 47 1 #[(0,.int .i64 1)]) fun a=>.unS a fun m F v=>.sem false (Instr.buildSlice 47 1 #[(0,.int .i64 0)]) fun a=>.unS a fun n G w=>.sem false (Instr.buildSlice 36 10 #[(0,.agg #[.int .i64 0,.int .i64 12,.int .i64 0,.slice b d c,.int .i64 0]),(1,.agg #[.int .i64 1,.int .i64 15,.int .i64 0,.slice e x o,.int .i64 0]),(2,.agg #[.int .i64 2,.int .i64 25,.int .i64 0,.slice f y p,.int .i64 0]),(3,.agg #[.int .i64 3,.int .i64 22,.int .i64 0,.slice g z q,.int .i64 0]),(4,.agg #[.int .i64 4,.int .i64 40,.int .i64 0,.slice i B r,.int .i64 30]),(5,.agg #[.int .i64 5,.int .i64 44,.int .i64 0,.slice j C s,.int .i64 0]),(6,.agg #[.int .i64 0,.int .i64 20,.int .i64 1,.slice k D t,.int .i64 0]),(7,.agg #[.int .i64 1,.int .i64 27,.int .i64 1,.slice l E u,.int .i64 0]),(8,.agg #[.int .i64 4,.int .i64 50,.int .i64 0,.slice m F v,.int .i64 31]),(9,.agg #[.int .i64 6,.int .i64 18,.int .i64 0,.slice n G w,.int .i64 3])]) fun a=>.unS a fun b d c=>.rt (.agg #[.int .i64 3,.int .i64 2,.int .i64 10,.int .i64 20,.int .i64 6,.int .i64 5,.slice b d c])):=fk [0] [] [] Tryz.f56
theorem w2049:FX X 63 #[a,b] h A (.rt (.agg #[a,b])):=fk [4] [] [] Tryz.f63
end Go.Y
end
section
namespace Go.Y.Tre
open Go.TM.Tr
attribute [local irreducible] T.wp CV FWK
def bigB(x:TF):Bool:=decide (20<x.events.length)||x.events.any fun e=>decide (20<e.items.length)
variable {h:LH}
theorem c2016{f:TC}{x:TF}(b:TreatyR h.get f x):Pu Tryz.prog 14 #[treatyV f x] h (.bool (bigB x)):=by
 refine w2016 Qr ?_;have w:=b.2.1;have hb:=b.2.2.1;refine t_if (fun e=>?_) (fun e=>?_)
 ·exact Qn ⟨by rw[bigB,decide_eq_true (by omega)];rfl,rfl⟩
 have h0:bigB x=x.events.any fun e=>decide (20<e.items.length):=by rw[bigB,decide_eq_false (by omega)];rfl
 refine Jc (fun d vs h'=>h=h'/\∃ j:Nat,vs=[.bool false,.int .i64 j]/\j<=f.n/\d=f.n-j/\bigB x=(x.events.drop j).any fun e=>decide (20<e.items.length)) ⟨rfl,0,rfl,Nat.zero_le _,rfl,h0⟩ ?_;rintro Y d vs _ l ⟨rfl,j,rfl,v,rfl,hc⟩;refine yJ (fun g=>?_) (fun g=>?_)
 ·obtain⟨y,a,o,u,p,r,s,⟨q,m,c,t,_,g5⟩,g4⟩:=b.2.at (i:=j) (by omega);rw[J0 o,List.any_cons]at hc;have hm:=g5.1;refine yJ (fun k=>?_) (fun k=>?_)
  ·refine gZ ?_;rw[decide_eq_true (by omega),Bool.true_or]at hc;exact Qn ⟨by rw[hc],rfl⟩
  ·rw[decide_eq_false (by omega),Bool.false_or]at hc;refine Qj (l (f.n-(j+1)) _ _ (by omega) ⟨rfl,j+1,?_,by omega,rfl,hc⟩);rw[Qo (by omega) (by omega)];rfl
 ·refine gZ ?_;rw[List.drop_eq_nil_of_le (by omega)]at hc;exact Qn ⟨by rw[hc];rfl,rfl⟩
theorem c2049(a b:Int):Pu Tryz.prog 63 #[a,b] h (.agg #[a,b]):=by
 refine w2049 Qr ?_;exact Qn ⟨rfl,rfl⟩
section
variable {X:XP} {Q:Leaf->LH->Prop} {h:LH} {n:Nat} {parts:Array (Nat×Value)} {k:Value->T}
theorem t_ints(l:List Int)(e:n*1<=2^24)(d:l.length=n)(a:n*1≠0)
 (b:Instr.fill (fun i=>some (i*1,1)) ((Array.range (n*1)).map ((Value.int .i64 0).cells[·%(Value.int .i64 0).cells.size]!)) parts.toList=some (l.map (Value.int .i64)).toArray)
 (c:∀ r h',h.le h'->Sl IntE 1 h'.get (some ⟨r,0,none⟩) n l->(k (.slice (some ⟨r,0,none⟩) n n)).wp X Tryz.prog Q h'):(T.sem false (Instr.buildSlice 47 n parts) k).wp X Tryz.prog Q h:=by
 refine Zu (l.map (Value.int .i64)) und50 inf3 e a b fun r h' le _ hc=>c r h' le ?_;refine⟨d.symm,by omega,fun i x f=>⟨_,rfl,?_⟩⟩;unfold IntE;rw[Nat.mul_one];exact hc i _ (by rw[List.getElem?_map,f];rfl)
theorem t_bools(l:List Bool)(e:n*1<=2^24)(d:l.length=n)(a:n*1≠0)
 (b:Instr.fill (fun i=>some (i*1,1)) ((Array.range (n*1)).map ((Value.bool false).cells[·%(Value.bool false).cells.size]!)) parts.toList=some (l.map Value.bool).toArray)
 (c:∀ r h',h.le h'->Sl BoolE 1 h'.get (some ⟨r,0,none⟩) n l->(k (.slice (some ⟨r,0,none⟩) n n)).wp X Tryz.prog Q h'):(T.sem false (Instr.buildSlice 122 n parts) k).wp X Tryz.prog Q h:=by
 refine Zu (l.map Value.bool) undBs inf4 e a b fun r h' le _ hc=>c r h' le ?_;refine⟨d.symm,by omega,fun i x f=>⟨_,rfl,?_⟩⟩;unfold BoolE;rw[Nat.mul_one,Gv];exact hc i _ (by rw[List.getElem?_map,f];rfl)
end
theorem sp_two{h:Cells}{r:Nat}{a b:Sp}(hc:∀ (j:Nat) w,[Value.int .i64 a.first,.int .i64 a.last,.int .i64 b.first,.int .i64 b.last][j]?=some w->h.cell? (Addr.add ⟨r,0,none⟩ j)=some w):Sl SpE 2 h (some ⟨r,0,none⟩) 2 [a,b]:=by
 refine⟨rfl,by simp,fun i x c=>⟨_,rfl,?_⟩⟩
 match i,c with
 | 0,c=>cases c;exact⟨hc 0 _ rfl,hc 1 _ rfl⟩
 | 1,c=>cases c;exact⟨by rw[Qa,Qa];exact hc 2 _ rfl,by rw[Qa,Qa];exact hc 3 _ rfl⟩
 | i+2,c=>simp at c
def exT:TF:=⟨3,2,10,20,6,5,[⟨0,12,0,[0,1,2],0⟩,⟨1,15,0,[1],0⟩,⟨2,25,0,[1],0⟩,⟨3,22,0,[2],0⟩,⟨4,40,0,[0],30⟩,⟨5,44,0,[0],0⟩,⟨0,20,1,[0,1],0⟩,⟨1,27,1,[1],0⟩,⟨4,50,0,[1],31⟩,⟨6,18,0,[0],3⟩]⟩
theorem c2048:Gr Tryz.prog 56 #[] h fun r h'=>∃ f,r=treatyV f exT/\TreatyR h'.get f exT:=by
 refine w2048 Qr ?_;refine t_ints [0,1,2] (by decide) rfl (by decide) (by kernel_rfl) fun r0 h0 B s=>?_;refine gZ ?_;refine t_ints [1] (by decide) rfl (by decide) (by kernel_rfl) fun r1 h1 z s1=>?_;refine gZ ?_;refine t_ints [1] (by decide) rfl (by decide) (by kernel_rfl) fun r2 h2 q s2=>?_;refine gZ ?_;refine t_ints [2] (by decide) rfl (by decide) (by kernel_rfl) fun r3 h3 k t=>?_;refine gZ ?_;refine t_ints [0] (by decide) rfl (by decide) (by kernel_rfl) fun r4 D i u=>?_;refine gZ ?_;refine t_ints [0] (by decide) rfl (by decide) (by kernel_rfl) fun r5 h5 g w=>?_;refine gZ ?_;refine t_ints [0,1] (by decide) rfl (by decide) (by kernel_rfl) fun l E d s6=>?_;refine gZ ?_;refine t_ints [1] (by decide) rfl (by decide) (by kernel_rfl) fun m F c s7=>?_;refine gZ ?_;refine t_ints [1] (by decide) rfl (by decide) (by kernel_rfl) fun n G b s8=>?_;refine gZ ?_;refine t_ints [0] (by decide) rfl (by decide) (by kernel_rfl) fun o y a C=>?_;refine gZ ?_;have s:=s.le IntE.grow (LH.le_trans z (LH.le_trans q (LH.le_trans k (LH.le_trans i (LH.le_trans g (LH.le_trans d (LH.le_trans c (LH.le_trans b (a))))))))).1;have s1:=s1.le IntE.grow (LH.le_trans q (LH.le_trans k (LH.le_trans i (LH.le_trans g (LH.le_trans d (LH.le_trans c (LH.le_trans b (a)))))))).1;have s2:=s2.le IntE.grow (LH.le_trans k (LH.le_trans i (LH.le_trans g (LH.le_trans d (LH.le_trans c (LH.le_trans b (a))))))).1;have t:=t.le IntE.grow (LH.le_trans i (LH.le_trans g (LH.le_trans d (LH.le_trans c (LH.le_trans b (a)))))).1;have u:=u.le IntE.grow (LH.le_trans g (LH.le_trans d (LH.le_trans c (LH.le_trans b (a))))).1;have w:=w.le IntE.grow (LH.le_trans d (LH.le_trans c (LH.le_trans b (a)))).1;have s6:=s6.le IntE.grow (LH.le_trans c (LH.le_trans b (a))).1;have s7:=s7.le IntE.grow (LH.le_trans b (a)).1;have s8:=s8.le IntE.grow (a).1;have p:h.le y:=LH.le_trans B (LH.le_trans z (LH.le_trans q (LH.le_trans k (LH.le_trans i (LH.le_trans g (LH.le_trans d (LH.le_trans c (LH.le_trans b (a)))))))));refine Uy undEvs infEv (by decide) (by decide) (cells:=#[.int .i64 0,.int .i64 12,.int .i64 0,.slice (some ⟨r0,0,none⟩) 3 3,.int .i64 0,.int .i64 1,.int .i64 15,.int .i64 0,.slice (some ⟨r1,0,none⟩) 1 1,.int .i64 0,.int .i64 2,.int .i64 25,.int .i64 0,.slice (some ⟨r2,0,none⟩) 1 1,.int .i64 0,.int .i64 3,.int .i64 22,.int .i64 0,.slice (some ⟨r3,0,none⟩) 1 1,.int .i64 0,.int .i64 4,.int .i64 40,.int .i64 0,.slice (some ⟨r4,0,none⟩) 1 1,.int .i64 30,.int .i64 5,.int .i64 44,.int .i64 0,.slice (some ⟨r5,0,none⟩) 1 1,.int .i64 0,.int .i64 0,.int .i64 20,.int .i64 1,.slice (some ⟨l,0,none⟩) 2 2,.int .i64 0,.int .i64 1,.int .i64 27,.int .i64 1,.slice (some ⟨m,0,none⟩) 1 1,.int .i64 0,.int .i64 4,.int .i64 50,.int .i64 0,.slice (some ⟨n,0,none⟩) 1 1,.int .i64 31,.int .i64 6,.int .i64 18,.int .i64 0,.slice (some ⟨o,0,none⟩) 1 1,.int .i64 3]) (by kernel_rfl) fun r hr=>?_;have A:=Q4 (x:=(true,.cells #[.int .i64 0,.int .i64 12,.int .i64 0,.slice (some ⟨r0,0,none⟩) 3 3,.int .i64 0,.int .i64 1,.int .i64 15,.int .i64 0,.slice (some ⟨r1,0,none⟩) 1 1,.int .i64 0,.int .i64 2,.int .i64 25,.int .i64 0,.slice (some ⟨r2,0,none⟩) 1 1,.int .i64 0,.int .i64 3,.int .i64 22,.int .i64 0,.slice (some ⟨r3,0,none⟩) 1 1,.int .i64 0,.int .i64 4,.int .i64 40,.int .i64 0,.slice (some ⟨r4,0,none⟩) 1 1,.int .i64 30,.int .i64 5,.int .i64 44,.int .i64 0,.slice (some ⟨r5,0,none⟩) 1 1,.int .i64 0,.int .i64 0,.int .i64 20,.int .i64 1,.slice (some ⟨l,0,none⟩) 2 2,.int .i64 0,.int .i64 1,.int .i64 27,.int .i64 1,.slice (some ⟨m,0,none⟩) 1 1,.int .i64 0,.int .i64 4,.int .i64 50,.int .i64 0,.slice (some ⟨n,0,none⟩) 1 1,.int .i64 31,.int .i64 6,.int .i64 18,.int .i64 0,.slice (some ⟨o,0,none⟩) 1 1,.int .i64 3] 120 (0,0))) hr;have rows:Go.TM.Rows (EventEnc y.get) [.int .i64 0,.int .i64 12,.int .i64 0,.slice (some ⟨r0,0,none⟩) 3 3,.int .i64 0,.int .i64 1,.int .i64 15,.int .i64 0,.slice (some ⟨r1,0,none⟩) 1 1,.int .i64 0,.int .i64 2,.int .i64 25,.int .i64 0,.slice (some ⟨r2,0,none⟩) 1 1,.int .i64 0,.int .i64 3,.int .i64 22,.int .i64 0,.slice (some ⟨r3,0,none⟩) 1 1,.int .i64 0,.int .i64 4,.int .i64 40,.int .i64 0,.slice (some ⟨r4,0,none⟩) 1 1,.int .i64 30,.int .i64 5,.int .i64 44,.int .i64 0,.slice (some ⟨r5,0,none⟩) 1 1,.int .i64 0,.int .i64 0,.int .i64 20,.int .i64 1,.slice (some ⟨l,0,none⟩) 2 2,.int .i64 0,.int .i64 1,.int .i64 27,.int .i64 1,.slice (some ⟨m,0,none⟩) 1 1,.int .i64 0,.int .i64 4,.int .i64 50,.int .i64 0,.slice (some ⟨n,0,none⟩) 1 1,.int .i64 31,.int .i64 6,.int .i64 18,.int .i64 0,.slice (some ⟨o,0,none⟩) 1 1,.int .i64 3] exT.events:=Go.TM.Rows.snoc (x:=(⟨6,18,0,[0],3⟩ : Ev)) (ws:=[.int .i64 6,.int .i64 18,.int .i64 0,.slice (some ⟨o,0,none⟩) 1 1,.int .i64 3]) (Go.TM.Rows.snoc (x:=(⟨4,50,0,[1],31⟩ : Ev)) (ws:=[.int .i64 4,.int .i64 50,.int .i64 0,.slice (some ⟨n,0,none⟩) 1 1,.int .i64 31]) (Go.TM.Rows.snoc (x:=(⟨1,27,1,[1],0⟩ : Ev)) (ws:=[.int .i64 1,.int .i64 27,.int .i64 1,.slice (some ⟨m,0,none⟩) 1 1,.int .i64 0]) (Go.TM.Rows.snoc (x:=(⟨0,20,1,[0,1],0⟩ : Ev)) (ws:=[.int .i64 0,.int .i64 20,.int .i64 1,.slice (some ⟨l,0,none⟩) 2 2,.int .i64 0]) (Go.TM.Rows.snoc (x:=(⟨5,44,0,[0],0⟩ : Ev)) (ws:=[.int .i64 5,.int .i64 44,.int .i64 0,.slice (some ⟨r5,0,none⟩) 1 1,.int .i64 0]) (Go.TM.Rows.snoc (x:=(⟨4,40,0,[0],30⟩ : Ev)) (ws:=[.int .i64 4,.int .i64 40,.int .i64 0,.slice (some ⟨r4,0,none⟩) 1 1,.int .i64 30]) (Go.TM.Rows.snoc (x:=(⟨3,22,0,[2],0⟩ : Ev)) (ws:=[.int .i64 3,.int .i64 22,.int .i64 0,.slice (some ⟨r3,0,none⟩) 1 1,.int .i64 0]) (Go.TM.Rows.snoc (x:=(⟨2,25,0,[1],0⟩ : Ev)) (ws:=[.int .i64 2,.int .i64 25,.int .i64 0,.slice (some ⟨r2,0,none⟩) 1 1,.int .i64 0]) (Go.TM.Rows.snoc (x:=(⟨1,15,0,[1],0⟩ : Ev)) (ws:=[.int .i64 1,.int .i64 15,.int .i64 0,.slice (some ⟨r1,0,none⟩) 1 1,.int .i64 0]) (Go.TM.Rows.snoc (x:=(⟨0,12,0,[0,1,2],0⟩ : Ev)) (ws:=[.int .i64 0,.int .i64 12,.int .i64 0,.slice (some ⟨r0,0,none⟩) 3 3,.int .i64 0]) (.nil) ⟨_,_,_,rfl,Nat.le_refl _,s⟩) ⟨_,_,_,rfl,Nat.le_refl _,s1⟩) ⟨_,_,_,rfl,Nat.le_refl _,s2⟩) ⟨_,_,_,rfl,Nat.le_refl _,t⟩) ⟨_,_,_,rfl,Nat.le_refl _,u⟩) ⟨_,_,_,rfl,Nat.le_refl _,w⟩) ⟨_,_,_,rfl,Nat.le_refl _,s6⟩) ⟨_,_,_,rfl,Nat.le_refl _,s7⟩) ⟨_,_,_,rfl,Nat.le_refl _,s8⟩) ⟨_,_,_,rfl,Nat.le_refl _,C⟩;refine gZ ?_;refine Qn ⟨LH.le_trans p A,⟨some ⟨r,0,none⟩,10,10⟩,rfl,Nat.le_refl _,?_⟩;refine rows.sl EventEnc.len (by omega) (EventEnc.e (Jv A.1)) (el:=120) ⟨rfl,.inr ⟨r,_,rfl,Qk _ _ _,rfl,Nat.le_refl _,fun j v hv=>by simpa using hv⟩⟩ (by decide)
end Go.Y.Tre
end
section
namespace Go.TM.Tp
open Go.TM.Tr
def hdT(x:TF):Bs:=rowS wTreaty [di x.items,di x.lands,di x.start,di x.depend,di x.refuse,di x.turn]
def rowE(e:Ev):Bs:=rowS (wordT e.kind.toNat) (fieldsE e)
def textTi(x:TF)(i:Nat):Bs:=text (hdT x::(x.events.take i).map rowE)
variable {x:TF}{i:Nat}
theorem Gz(h:x.events.length<=i):textTi x i=textT x:=by
 unfold textTi textT rowsT;rw[List.take_of_length_le h];rfl
theorem textTi_snoc{e:Ev}(h:x.events[i]?=some e):textTi x (i+1)=textTi x i++lineS (wordT e.kind.toNat) (fieldsE e):=by
 unfold textTi;rw[Ww h,List.map_append,<- List.cons_append];show text (_++[rowE e])=_;rw[text_snoc,row_line];rfl
structure TSm(x:TF):Prop where
 head:Sm x.items/\Sm x.lands/\Sm x.start/\Sm x.depend/\Sm x.refuse/\Sm x.turn
 few:x.events.length<=10
 ev:∀ e∈x.events,(0<=e.kind/\e.kind<=6)/\Sm e.day/\Sm e.land/\Sm e.since/\(∀ n∈e.items,Sm n)/\e.items.length<=5
theorem asc_len:∀ {l:List Int} {b:Nat} {a:Int},(∀ v∈l,a<=v/\v<(b:Int))->l.Pairwise (·<·)->(l.length:Int)<=(b:Int)-a\/l=[]
 | [],_,_,_,_=>.inr rfl
 | x::l,b,a,h,c=>by
  left;obtain⟨h1,h2⟩:=List.pairwise_cons.1 c;have d:=h x (by simp);rcases asc_len (l:=l) (b:=b) (a:=x+1) (fun v hv=>⟨by have:=h1 v hv;omega,(h v (List.mem_cons_of_mem _ hv)).2⟩) h2 with h3|h3
  ·simp only[List.length_cons];omega
  ·subst h3;simp only[List.length_cons,List.length_nil];omega
theorem tsm(h:checkT x=0)(f:x.events.length<=10):TSm x:=by
 have i:=J9 h;refine⟨by unfold Sm;omega,f,fun e he=>?_⟩;have c:=D9.1 (W7 h e he);have k:=c.kind;have d:=c.day;have s:=c.since;have l:=c.land;obtain⟨i1,i2⟩:=items_ok c.items;refine⟨k,by unfold Sm;omega,by unfold Sm;omega,by unfold Sm;omega,fun n g=>by have:=i1 n g;unfold Sm;omega,?_⟩;rcases asc_len (b:=5) (a:=0) (fun v hv=>by have:=i1 v hv;omega) i2 with h1|h1
 ·omega
 ·rw[h1];simp
theorem fieldsE_small{e:Ev}(h:Sm e.day/\Sm e.land/\Sm e.since/\(∀ n∈e.items,Sm n)/\e.items.length<=5):(∀ f∈fieldsE e,f.length<=60)/\(fieldsE e).length<=4/\fieldsE e≠[]:=by
 obtain⟨h1,h2,h3,b,h5⟩:=h;have d1:=Zt h1.fits;have d2:=Zt h2.fits;have d3:=Zt h3.fits;have d4:=li_len fun n c=>(b n c).fits;unfold fieldsE;refine⟨fun f a=>?_,?_,by simp⟩
 ·simp only[List.mem_append,List.mem_singleton]at a;rcases a with((rfl|a)|a)|rfl
  ·omega
  ·split at a
   ·rw[List.mem_singleton]at a;subst a;omega
   ·cases a
  ·split at a
   ·rw[List.mem_singleton]at a;subst a;omega
   ·cases a
  ·omega
 ·split<;>split<;>simp
theorem words_len:∀ k,k<=6->(wordT k).length<=6:=by decide
theorem Gy(s:TSm x)(i:Nat):(textTi x i).length<=11*400:=by
 have h1:=text_len (B:=399) (bs:=hdT x::(x.events.take i).map rowE) fun b hb=>by
  rcases List.mem_cons.1 hb with rfl|hb
  ·obtain⟨a,c,d,f,g,h⟩:=s.head;have:=Zt a.fits;have:=Zt c.fits;have:=Zt d.fits;have:=Zt f.fits;have:=Zt g.fits;have:=Zt h.fits;unfold hdT rowS;simp[wTreaty];omega
  ·obtain⟨e,he,rfl⟩:=List.mem_map.1 hb;obtain⟨k1,l⟩:=s.ev e (List.mem_of_mem_take he);obtain⟨j,k,_⟩:=fieldsE_small l;have:=row_small (w:=wordT e.kind.toNat) (by have:=words_len e.kind.toNat (by omega);omega) j k;unfold rowE;omega
 have h2:(hdT x::(x.events.take i).map rowE).length<=11:=by
  simp only[List.length_cons,List.length_map,List.length_take];have:=s.few;omega
 have:(hdT x::(x.events.take i).map rowE).length*400<=11*400:=Nat.mul_le_mul_right _ h2;exact Nat.le_trans h1 this
theorem printT_ok(h:checkT x=0)(s:TSm x):printT x=(textT x,0):=by
 have:=Gy s x.events.length;rw[Gz (Nat.le_refl _)]at this;unfold printT;rw[if_neg (by simp[h]),if_neg (by omega)]
theorem printT_bad(h:checkT x≠0):printT x=([],checkT x):=by unfold printT;rw[if_pos h]
theorem H8(h:checkT x=0):x.events.length<=10:=by
 unfold checkT at h;split at h
 ·cases h
 ·split at h
  ·cases h
  ·omega
end Go.TM.Tp
namespace Go.Y.Txt
open Go.TM.Tp Go.TM.Tr
open Go.Lib (decDigits)
attribute [local irreducible] T.wp CV FWK
theorem t_oneN{X:XP}{Q:Leaf->LH->Prop}{h:LH}{K:Value->T}(x:Int)(d:∀ p h',h.le h'->Growing IntEnc 3 1 h.get h'.get p 1 1 [x]->(K (.slice p 1 1)).wp X Tryz.prog Q h'):(T.sem false (Instr.buildSlice 47 1 #[(0,.int .i64 x)]) K).wp X Tryz.prog Q h:=by
 refine Uy (cells:=#[.int .i64 x]) Tre.und50 Tre.inf3 (by decide) (by decide) (by kernel_rfl) fun r hr=>d _ _ (Q4 hr) ⟨⟨[.int .i64 x],⟨rfl,.inr ⟨r,_,rfl,Qk _ _ _,rfl,Nat.le_refl _,fun j v c=>by simpa using c⟩⟩,.snoc (vs:=[]) .nil rfl⟩,fun a b=>by cases b;exact hr⟩
theorem c3709{h:LH}{f:TC}{x:TF}(hk:Tre.Kinds h.get)(hw:KWords h.get)(pw:PowT 5 h.get)(hu:TreatyR h.get f x):Gr Tryz.prog 16 #[treatyV f x] h fun r _=>r=printV (printT x):=by
 refine w3709 Qr ?_;refine t_pu (Tre.c2021 hk hu) ?_;refine yI (fun e=>?_) (fun e=>?_)
 ·have hz:checkT x≠0:=by simpa using e
  rw[printT_bad hz];exact Qn ⟨LH.le_refl _,rfl⟩
 have C:checkT x=0:=by simpa using e
 have sm:=tsm C (H8 C);rw[printT_ok C sm];obtain⟨f1,f2,f3,f4,f5,f6⟩:=sm.head;refine U5 fun r h0 m0 k0 hr=>?_;have B0:BldR h h0 r []:=⟨⟨none,none,0,hr,.inl rfl,OwnRow.nil,NewIn.none,fun a ha=>by cases ha⟩,k0,m0⟩
 refine Tre.t_ints [x.items,x.lands,x.start,x.depend,x.refuse,x.turn] (by decide) rfl (by decide) (by kernel_rfl) fun r1 h1 n0 s1=>?_;have B1:=B0.grow n0;refine gZ ?_;refine t_gr (c3734 (pw.le B1.le.1) s1 (by simp) (fun v hv=>by simp only[List.mem_cons,List.not_mem_nil,or_false]at hv;rcases hv with rfl|rfl|rfl|rfl|rfl|rfl<;>assumption)) ?_;rintro _ h2 o0 ⟨q,m,k,rfl,s2,_⟩;have B2:=B1.grow o0;refine gZ ?_;have d1:=Zt f1.fits;have d2:=Zt f2.fits;have d3:=Zt f3.fits;have d4:=Zt f4.fits;have d5:=Zt f5.fits;have d6:=Zt f6.fits;refine J3 (Hs Qr (by rfl) (c3733 (w:=wTreaty) B2 s2 (by simp) (by decide) (by simp) (Nat.le_trans (H5 (B:=60) fun g hg=>by simp only[List.map_cons,List.map_nil,List.mem_cons,List.not_mem_nil,or_false]at hg;rcases hg with rfl|rfl|rfl|rfl|rfl|rfl<;>omega) (by simp)) (by simp))) ?_;rintro _ h3 ⟨rfl,B3⟩;refine gZ ?_;have e0:[]++lineS wTreaty ([x.items,x.lands,x.start,x.depend,x.refuse,x.turn].map di)=textTi x 0:=by simp[textTi,text,hdT,row_line]
 rw[e0]at B3;refine Kc (fun mm vs h'=>∃ i:Nat,vs=[.int .i64 i]/\i<=f.n/\mm=f.n-i/\BldR h h' r (textTi x i)) (fun vs h'=>(∃ i:Int,vs=[.int .i64 i])/\BldR h h' r (textT x)) ⟨0,rfl,Nat.zero_le _,rfl,B3⟩ ?_ ?_
 ·rintro Y mm vs o hY ⟨i,rfl,hi,rfl,d⟩;have hn:=hu.2.1;have a1:=sm.few;refine yJ (fun F=>?_) (fun F=>?_)
  ·obtain⟨ev,a,hx,ha,xe⟩:=(hu.2.le EventE.grow d.le.1).at (i:=i) (by omega);have a2:0<=(i:Int)/\(i:Int)<(f.n:Int):=by omega
   have N:=List.mem_of_getElem? hx;obtain⟨kb,G,H,I,z,W⟩:=sm.ev ev N;obtain⟨y0,y1,y2,⟨q',m',cq,y3,m1,x0⟩,y4⟩:=xe;obtain⟨kk,g0⟩ : ∃ kk:Nat,ev.kind=(kk:Int):=⟨ev.kind.toNat,by omega⟩
   have E:kk<7:=by omega
   have M:ev.kind.toNat=kk:=by omega
   rw[g0]at y0;have D:=hk.le d.le.1;have w0:o.get.cell? (((⟨1,0,none⟩ : Addr).add ((kk:Int).toNat*4)).add 0)=some (.string (str (wordT kk))):=by rw[Qa,Qa,Int.toNat_natCast];simpa using hw.le d.le.1 kk E
   have w1:o.get.cell? (((⟨1,0,none⟩ : Addr).add ((kk:Int).toNat*4)).add 1)=some (.bool (Tre.landK kk)):=by rw[Qa,Qa,Int.toNat_natCast];simpa using D.land kk E
   have w2:o.get.cell? (((⟨1,0,none⟩ : Addr).add ((kk:Int).toNat*4)).add 2)=some (.bool (Tre.sinceK kk)):=by rw[Qa,Qa,Int.toNat_natCast];simpa using D.since kk E
   have w3:=D.gives kk E;have u0:o.get.cell? (((⟨1,0,none⟩ : Addr).add ((kk:Int).toNat*4)).add 3)=some (.func (.func (if Tre.givesK kk then 294 else 295)) #[] #[]):=by rw[Qa,Qa,Int.toNat_natCast];simpa using w3
   have j1:0<=(kk:Int)/\(kk:Int)<((7:Nat):Int):=by omega
   refine gZ ?_;refine Je w0 ?_;refine gZ ?_;refine Dy u0 ?_;refine yT ?_;refine t_oneN ev.day fun p1 h7 s g1=>?_;have X:Tre.landK kk=landB kk:=by
    match kk,E with
    | 0,_|1,_|2,_|3,_|4,_|5,_|6,_=>rfl
   have Z:Tre.sinceK kk=sinceB kk:=by
    match kk,E with
    | 0,_|1,_|2,_|3,_|4,_|5,_|6,_=>rfl
   rw[X,Z];refine gZ ?_;refine Jk (fun vs h'=>∃ (p:Option Addr) (n c:Nat),vs=[.slice p n c]/\o.le h'/\Growing IntEnc 3 1 o.get h'.get p n c ([ev.day]++(if landB kk then [ev.land] else []))) ?_ ?_
   ·refine Qt (fun A=>?_) (fun A=>?_)
    ·refine Ux ev.land (by simp) g1 s fun S c' h8 t Q=>?_;refine Qj ⟨S,2,c',rfl,t,?_⟩;rw[if_pos A];exact Q
    ·refine Qj ⟨p1,1,1,rfl,s,?_⟩;rw[if_neg (by simp[A])];exact g1
   rintro vs h8 ⟨p2,n2,c2,rfl,t,Q⟩;refine gZ ?_;refine Jk (fun vs h'=>∃ (p:Option Addr) (n c:Nat),vs=[.slice p n c]/\o.le h'/\Growing IntEnc 3 1 o.get h'.get p n c ([ev.day]++(if landB kk then [ev.land] else [])++(if sinceB kk then [ev.since] else []))) ?_ ?_
   ·refine Qt (fun A=>?_) (fun A=>?_)
    ·refine Ux ev.since (by split<;>simp) Q t fun S c' h9 b R=>?_;refine Qj ⟨S,n2+1,c',rfl,b,?_⟩;rw[if_pos A];exact R
    ·refine Qj ⟨p2,n2,c2,rfl,t,?_⟩;rw[show (if sinceB kk=true then [ev.since] else [])=[] from if_neg (by simp[A]),List.append_nil];exact Q
   rintro vs h9 ⟨p3,n3,c3,rfl,b,R⟩;have hL:∀ v∈([ev.day]++(if landB kk then [ev.land] else [])++(if sinceB kk then [ev.since] else [])),Sm v:=by
    intro v hv;simp only[List.mem_append,List.mem_singleton]at hv;rcases hv with(rfl|hv)|hv
    ·exact G
    ·split at hv
     ·rw[List.mem_singleton]at hv;subst hv;exact H
     ·cases hv
    ·split at hv
     ·rw[List.mem_singleton]at hv;subst hv;exact I
     ·cases hv
   have a0:([ev.day]++(if landB kk then [ev.land] else [])++(if sinceB kk then [ev.since] else [])).length<=3:=by split<;>split<;>simp
   have K:([ev.day]++(if landB kk then [ev.land] else [])++(if sinceB kk then [ev.since] else [])).map di++[li ev.items]=fieldsE ev:=by
    unfold fieldsE;rw[M];cases landB kk<;>cases sinceB kk<;>rfl
   generalize ([ev.day]++(if landB kk then [ev.land] else [])++(if sinceB kk then [ev.since] else []))=L at R hL a0 K;refine gZ ?_;refine t_gr (c3734 (pw.le (LH.le_trans d.le b).1) (growI R (by omega)).2 (by omega) hL) ?_;rintro _ n1 j ⟨q4,m4,k4,rfl,s4,g4⟩;refine gZ ?_;refine t_gr (c3734 (pw.le (LH.le_trans d.le (LH.le_trans b j)).1) (x0.le IntE.grow (LH.le_trans b j).1) (by omega) z) ?_;rintro _ o1 u ⟨q5,m5,k5,rfl,s5,_⟩;have b2:=li_len fun v hv=>(z v hv).fits;refine gZ ?_;refine t_gr (c3716 s5 44 (by rw[List.length_map];omega) (by rw[li_is];omega)) ?_;rintro _ q1 y rfl;refine Qx ?_;rw[li_is];refine gZ ?_;have j0:=g4.count BsEnc.len (by omega);rw[List.length_map]at j0;refine Zu [.string (str (li ev.items))] undSs infS (by decide) (by decide) (by kernel_rfl) ?_;intro r7 z0 l _ l0;refine gZ ?_;have P:=LH.le_trans j (LH.le_trans u (LH.le_trans y l));refine D1 (h₀:=h9) (Enc:=BsEnc) (li ev.items) [.string (str (li ev.items))] rfl rfl undSs infS rfl (by omega) (by omega) (g4.le (LH.le_trans u (LH.le_trans y l)).1) P rfl rfl l0 (bs_one _) ?_;intro S c' u1 O l1 J;rw[K]at J;obtain⟨z1,z2,z3⟩:=fieldsE_small ⟨G,H,I,z,W⟩;have s0:=growS J (by omega);have U:=d.grow (LH.le_trans b O);have e2:=Gy sm i;have g2:=words_len kk (by omega);refine gZ ?_;refine J3 (Hs Qr (by rfl) (c3733 (w:=wordT kk) U s0 z3 (by omega) (by omega) (join_small z1 z2) (by omega))) ?_;rintro _ x1 ⟨rfl,V⟩;refine gZ ?_;refine Qj (hY (f.n-(i+1)) _ _ (by omega) ⟨i+1,?_,by omega,rfl,?_⟩)
   ·rw[Qo (by omega) (by omega)];rfl
   ·rw[textTi_snoc hx,M];exact V
  ·rw[Gz (by omega)]at d;exact gH ⟨⟨_,rfl⟩,d⟩
 rintro vs o ⟨⟨i0,rfl⟩,d⟩;refine gZ ?_;have ht:=Gy sm x.events.length;rw[Gz (Nat.le_refl _)]at ht;obtain⟨p0,q0,cc,F,_⟩:=d.cells;refine t_pu (c3720 F) ?_;refine gZ ?_;refine t_if (fun F=>absurd F (by omega)) (fun _=>?_);refine Jm (c3721 d (by omega)) ?_;rintro _ h7 ⟨rfl,s⟩;refine Qx ?_;exact Qn ⟨s,rfl⟩
end Go.Y.Txt
end
section
namespace Go.Y.Tre
open Go.TM.Tr
attribute [local irreducible] T.wp CV FWK
def datesA(x:TF)(k d:Int):List Int:=if Qw x k d=0 then datesT x k d else []
def protA(x:TF)(k d:Int):List Bool:=if Qw x k d=0 then protT x k d else []
def turnsA(x:TF)(k d:Int):List Int:=if Qw x k d=0 then turnsT x k d else []
def SpansA(x:TF)(k i:Int)(m:List Sp):Prop:=(Q7 x k i≠0/\m=[])\/(Q7 x k i=0/\∃ l,IsDays x l/\m=spansT x k i l)
def needA(x:TF)(k i d:Int):List Int:=if Jo x k i d=0/\0<=dateOn x k i d then needT x k i d else []
def heldA(x:TF)(k i d:Int):Bool:=decide (Jo x k i d=0/\0<=dateOn x k i d)
variable {h:Cells}{x:TF}{k d i:Int}{r:Value}
theorem SpansA.one{x:TF}{k i:Int}{m a:List Sp}(h:SpansA x k i m)(h':SpansA x k i a):m=a:=by
 rcases h with⟨h1,rfl⟩|⟨h1,l,h2,rfl⟩<;>rcases h' with⟨h3,rfl⟩|⟨h3,c,b,rfl⟩
 ·rfl
 ·exact absurd h3 h1
 ·exact absurd h1 h3
 ·rw[h2.one b]
theorem ProtR.form(hr:ProtR h x k d r):∃ p n c,r=.tuple #[.slice p n c,.int .i64 (Qw x k d)]/\Sl BoolE 1 h p n (protA x k d)/\n<=c:=hr
theorem DatesR.form(hr:DatesR h x k d r):∃ p n c,r=.tuple #[.slice p n c,.int .i64 (Qw x k d)]/\Sl IntE 1 h p n (datesA x k d)/\n<=c:=by
 rcases hr with⟨h1,rfl⟩|⟨h1,p,n,c,rfl,s,a⟩
 ·exact⟨none,0,0,rfl,by rw[datesA,if_neg h1];exact Sl.nil,Nat.le_refl _⟩
 ·exact⟨p,n,c,by rw[h1],by rw[datesA,if_pos h1];exact s,a⟩
theorem TurnsR.form(hr:TurnsR h x k d r):∃ p n c,r=.tuple #[.slice p n c,.int .i64 (Qw x k d)]/\Sl IntE 1 h p n (turnsA x k d)/\n<=c:=by
 rcases hr with⟨h1,rfl⟩|⟨h1,p,n,c,rfl,s,a⟩
 ·exact⟨none,0,0,rfl,by rw[turnsA,if_neg h1];exact Sl.nil,Nat.le_refl _⟩
 ·exact⟨p,n,c,by rw[h1],by rw[turnsA,if_pos h1];exact s,a⟩
theorem SpansR.form(hr:SpansR h x k i r):∃ p n c m,r=.tuple #[.slice p n c,.int .i64 (Q7 x k i)]/\SpansA x k i m/\Sl SpE 2 h p n m/\n<=c:=by
 rcases hr with⟨h1,rfl⟩|⟨h1,p,n,c,l,rfl,a,s,b⟩
 ·exact⟨none,0,0,[],rfl,.inl ⟨h1,rfl⟩,Sl.nil,Nat.le_refl _⟩
 ·exact⟨p,n,c,_,by rw[h1],.inr ⟨h1,l,a,rfl⟩,s,b⟩
theorem NeedsR.form(hr:NeedsR h x k i d r):∃ p n c,r=.tuple #[.slice p n c,.bool (heldA x k i d),.int .i64 (Jo x k i d)]/\Sl IntE 1 h p n (needA x k i d)/\n<=c:=by
 rcases hr with⟨h1,rfl⟩|⟨h1,h2,rfl⟩|⟨h1,h2,p,n,c,rfl,s,e⟩
 ·exact⟨none,0,0,by rw[heldA,decide_eq_false (fun h=>h1 h.1)],by rw[needA,if_neg (fun h=>h1 h.1)];exact Sl.nil,Nat.le_refl _⟩
 ·exact⟨none,0,0,by rw[heldA,decide_eq_false (fun h=>h2 h.2),h1],by rw[needA,if_neg (fun h=>h2 h.2)];exact Sl.nil,Nat.le_refl _⟩
 ·exact⟨p,n,c,by rw[heldA,decide_eq_true ⟨h1,h2⟩,h1],by rw[needA,if_pos ⟨h1,h2⟩];exact s,e⟩
/-! ### b a examples -/
def exDays:List Int:=[0,12,15,18,20,22,25,27,40,44,50,10000]
theorem ex_days:IsDays exT exDays:=by
 refine⟨by decide +kernel,fun v=>?_⟩;simp only[exDays,exT,List.mem_cons,List.not_mem_nil,or_false,exists_eq_or_imp,false_and,exists_false,exists_eq_left];omega
theorem ex1:Qw exT 0 15=0/\protA exT 0 15=[true,false,true]:=by decide +kernel
theorem ex2:Qw exT 1 40=0/\protA exT 1 40=[false,true,false]:=by decide +kernel
theorem ex3:Qw exT 0 18=0/\datesA exT 0 18=[3,-1,12]:=by decide +kernel
theorem ex4:Qw exT 0 44=0/\datesA exT 0 44=[3,12,-1]:=by decide +kernel
theorem ex5:Q7 exT 0 0=0/\spansT exT 0 0 exDays=[⟨12,39⟩,⟨44,9999⟩]:=by decide +kernel
theorem ex6:Q7 exT 0 1=0/\spansT exT 0 1 exDays=[⟨12,14⟩,⟨25,9999⟩]:=by decide +kernel
theorem ex7:Qw exT 1 45=0/\turnsA exT 1 45=[0]:=by decide +kernel
theorem ex8:Qw exT 1 46=0/\turnsA exT 1 46=[]:=by decide +kernel
theorem ex9:Jo exT 0 0 44=0/\heldA exT 0 0 44=true/\needA exT 0 0 44=[0,5]:=by decide +kernel
theorem ex_spans(h0:Q7 exT 0 i=0){m:List Sp}(h:SpansA exT 0 i m):m=spansT exT 0 i exDays:=h.one (.inr ⟨h0,_,ex_days,rfl⟩)
theorem c2017{h:LH}(e0:h.chans=[])(l0:h.pend=[])(hk:Kinds h.get):FW XT Tryz.prog 15 #[] h fun r h'=>r=.bool true/\Rd h.get h'.get/\h'.chans=[]/\h'.pend=[]/\h'.todo=h.todo:=by
 refine w2017 W9 ?_;refine t_gr c2048 ?_;rintro _ h0 U ⟨f,rfl,hx⟩;have e:treatyV f exT=.agg #[.int .i64 3,.int .i64 2,.int .i64 10,.int .i64 20,.int .i64 6,.int .i64 5,.slice f.p f.n f.c]:=rfl;rw[e];refine gZ ?_;have E:=hk.le U.1;refine t_gr (c2018 E hx 0 15) ?_;intro r1 h1 w hr;obtain⟨p1,n1,k1,rfl,s1,_⟩:=hr.form;rw[ex1.1];rw[ex1.2]at s1;refine gZ ?_;have F:=E.le w.1;have M:=hx.le w.1;refine t_gr (c2018 F M 1 40) ?_;intro r2 h2 x hr;obtain⟨p2,n2,k2,rfl,s2,_⟩:=hr.form;rw[ex2.1];rw[ex2.2]at s2;refine gZ ?_;have G:=F.le x.1;have N:=M.le x.1;refine t_gr (c2026 G N 0 18) ?_;intro r3 h3 y hr;obtain⟨p3,n3,k3,rfl,X,_⟩:=hr.form;rw[ex3.1];rw[ex3.2]at X;refine gZ ?_;have H:=G.le y.1;have O:=N.le y.1;refine t_gr (c2026 H O 0 44) ?_;intro r4 h4 z hr;obtain⟨p4,n4,k4,rfl,Y,_⟩:=hr.form;rw[ex4.1];rw[ex4.2]at Y;refine gZ ?_;have I:=H.le z.1;have P:=O.le z.1;refine t_gr (c2023 I P 0 0) ?_;intro r5 h5 A hr;obtain⟨p5,n5,k5,m5,rfl,y0,Z,_⟩:=hr.form;obtain rfl:=ex_spans ex5.1 y0;rw[ex5.1];rw[ex5.2]at Z;refine gZ ?_;have J:=I.le A.1;have Q:=P.le A.1;refine t_gr (c2023 J Q 0 1) ?_;intro r6 h6 B hr;obtain⟨p6,n6,k6,m6,rfl,z0,s6,_⟩:=hr.form;obtain rfl:=ex_spans ex6.1 z0;rw[ex6.1];rw[ex6.2]at s6;refine gZ ?_;have K:=J.le B.1;have R:=Q.le B.1;refine t_gr (c2029 K R 1 45) ?_;intro r7 h7 C hr;obtain⟨p7,n7,k7,rfl,s7,_⟩:=hr.form;rw[ex7.1];rw[ex7.2]at s7;refine gZ ?_;have L:=K.le C.1;have S:=R.le C.1;refine t_gr (c2029 L S 1 46) ?_;intro r8 h8 D hr;obtain⟨p8,n8,k8,rfl,s8,_⟩:=hr.form;rw[ex8.1];rw[ex8.2]at s8;refine gZ ?_;have g0:=L.le D.1;have n0:=S.le D.1;have v:=D;have u:=LH.le_trans C v;have t:=LH.le_trans B u;have s:=LH.le_trans A t;have q:=LH.le_trans z s;have o:=LH.le_trans y q;have m:=LH.le_trans x o;have l:=LH.le_trans U (LH.le_trans w m);refine Jm (c2044 (by rw[l.2.1,e0]) (by rw[l.2.2.1,l0]) g0 n0 0 0 44) ?_;rintro r9 h9 ⟨k,a0,k0,m0,hr⟩;obtain⟨p9,n9,k9,rfl,s9,_⟩:=hr.form;rw[ex9.1,ex9.2.1];rw[ex9.2.2]at s9;refine gZ ?_;have s1:=(s1.le BoolE.grow m.1).rd BoolE.grow k;have s2:=(s2.le BoolE.grow o.1).rd BoolE.grow k;have X:=(X.le IntE.grow q.1).rd IntE.grow k;have Y:=(Y.le IntE.grow s.1).rd IntE.grow k;have Z:=(Z.le SpE.grow t.1).rd SpE.grow k;have s6:=(s6.le SpE.grow u.1).rd SpE.grow k;have s7:=(s7.le IntE.grow v.1).rd IntE.grow k;have s8:=s8.rd IntE.grow k;have j0:n8=0:=s8.1;subst j0;have W:=(Jv l.1).trans k;refine Jk (fun vs h'=>vs=[.bool false]/\h9=h') ?_ ?_
 ·refine Qt (fun e=>absurd e (by decide)) (fun _=>?_);refine Qt (fun e=>absurd e (by decide)) (fun _=>?_);refine Qt (fun e=>absurd e (by decide)) (fun _=>?_);refine Qt (fun e=>absurd e (by decide)) (fun _=>?_);refine Qt (fun e=>absurd e (by decide)) (fun _=>?_);refine Qt (fun e=>absurd e (by decide)) (fun _=>?_);refine Qt (fun e=>absurd e (by decide)) (fun _=>?_);refine Qt (fun e=>absurd e (by decide)) (fun _=>?_);refine Qt (fun e=>absurd e (by decide)) (fun _=>?_);exact Qj ⟨rfl,rfl⟩
 rintro vs _ ⟨rfl,rfl⟩;refine gZ ?_;refine Jk (fun vs h'=>vs=[.bool false]/\h9.le h') ?_ ?_
 ·refine t_bools [true,false,true] (by decide) rfl (by decide) (by kernel_rfl) fun q1 g1 V u1=>?_;refine gZ ?_;have j:=c2020 (h:=g1) (c:=k1) (d:=3) (s1.le BoolE.grow V.1) u1;rw[decide_eq_true rfl]at j;refine t_pu j ?_;refine gZ ?_;refine Qt (fun e=>absurd e (by decide)) (fun _=>?_);refine t_bools [false,true,false] (by decide) rfl (by decide) (by kernel_rfl) fun q2 g2 o0 u2=>?_;refine gZ ?_;have i:=LH.le_trans V o0;have j:=c2020 (h:=g2) (c:=k2) (d:=3) (s2.le BoolE.grow i.1) u2;rw[decide_eq_true rfl]at j;refine t_pu j ?_;refine gZ ?_;refine Qt (fun e=>absurd e (by decide)) (fun _=>?_);refine t_ints [3,-1,12] (by decide) rfl (by decide) (by kernel_rfl) fun q3 g3 p0 u3=>?_;refine gZ ?_;have i:=LH.le_trans i p0;have j:=c35 (h:=g3) (c:=k3) (d:=3) (X.le IntE.grow i.1) u3;rw[decide_eq_true rfl]at j;refine t_pu j ?_;refine gZ ?_;refine Qt (fun e=>absurd e (by decide)) (fun _=>?_);refine t_ints [3,12,-1] (by decide) rfl (by decide) (by kernel_rfl) fun q4 g4 q0 u4=>?_;refine gZ ?_;have i:=LH.le_trans i q0;have j:=c35 (h:=g4) (c:=k4) (d:=3) (Y.le IntE.grow i.1) u4;rw[decide_eq_true rfl]at j;refine t_pu j ?_;refine gZ ?_;refine Qt (fun e=>absurd e (by decide)) (fun _=>?_);refine Qt (fun e=>absurd e (by decide)) (fun _=>?_);refine t_ints [0,5] (by decide) rfl (by decide) (by kernel_rfl) fun q5 g5 s0 u5=>?_;refine gZ ?_;have i:=LH.le_trans i s0;have j:=c35 (h:=g5) (c:=k9) (d:=2) (s9.le IntE.grow i.1) u5;rw[decide_eq_true rfl]at j;refine t_pu j ?_;refine gZ ?_;refine Qt (fun e=>absurd e (by decide)) (fun _=>?_);exact Qj ⟨rfl,i⟩
 rintro vs g ⟨rfl,i⟩;refine gZ ?_;refine t_pu (c2049 _ _) ?_;refine gZ ?_;refine t_pu (c2049 _ _) ?_;refine gZ ?_;refine Zu [.int .i64 12,.int .i64 39,.int .i64 44,.int .i64 9999] und22 inf30 (by decide) (by decide) (by kernel_rfl) ?_;intro q6 g6 u0 _ u6;refine gZ ?_;have i:=LH.le_trans i u0;have j:=c2025 (h:=g6) (c:=k5) (d:=2) (Z.le SpE.grow i.1) (sp_two (a:=⟨12,39⟩) (b:=⟨44,9999⟩) u6);rw[decide_eq_true rfl]at j;refine t_pu j ?_;refine yT ?_;refine t_pu (c2049 _ _) ?_;refine gZ ?_;refine t_pu (c2049 _ _) ?_;refine gZ ?_;refine Zu [.int .i64 12,.int .i64 14,.int .i64 25,.int .i64 9999] und22 inf30 (by decide) (by decide) (by kernel_rfl) ?_;intro q7 g7 w0 _ u7;refine gZ ?_;have i:=LH.le_trans i w0;have j:=c2025 (h:=g7) (c:=k6) (d:=2) (s6.le SpE.grow i.1) (sp_two (a:=⟨12,14⟩) (b:=⟨25,9999⟩) u7);rw[decide_eq_true rfl]at j;refine t_pu j ?_;refine yT ?_;refine t_ints [0] (by decide) rfl (by decide) (by kernel_rfl) fun q8 g8 x0 u8=>?_;refine gZ ?_;have i:=LH.le_trans i x0;have j:=c35 (h:=g8) (c:=k7) (d:=1) (s7.le IntE.grow i.1) u8;rw[decide_eq_true rfl]at j;refine t_pu j ?_;refine yT ?_;exact Qn ⟨rfl,W.trans (Jv i.1),i.2.1.trans a0,i.2.2.1.trans k0,by rw[i.2.2.2,m0,l.2.2.2]⟩
end Go.Y.Tre
end
section
namespace Go.Y.Txt
open Go.TM.Tp Go.TM.Tr
attribute [local irreducible] T.wp CV FWK
variable {h:LH}{f:TC}{x:TF}
theorem c3713{g:TC}(b:TreatyR h.get f x)(d:TreatyR h.get g x):Pu Tryz.prog 20 #[treatyV f x,treatyV g x] h (.bool true):=by
 refine w3713 Qr ?_;have n5:f.n=g.n:=by have:=b.2.1;have:=d.2.1;omega
 refine Jk (fun vs h'=>vs=[.bool false]/\h=h') ?_ ?_
 ·refine Qt (fun e=>by simp at e) (fun _=>?_);refine Qt (fun e=>by simp at e) (fun _=>?_);refine Qt (fun e=>by simp at e) (fun _=>?_);refine Qt (fun e=>by simp at e) (fun _=>?_);refine Qt (fun e=>by simp at e) (fun _=>?_);refine Qt (fun e=>by simp at e) (fun _=>?_);refine Qt (fun e=>by rw[n5]at e;simp at e) (fun _=>?_);exact Qj ⟨rfl,rfl⟩
 rintro vs _ ⟨rfl,rfl⟩;refine gZ ?_;refine Kc (fun l vs h'=>h=h'/\∃ i:Nat,vs=[.bool false,.int .i64 i]/\i<=f.n/\l=f.n-i) (fun vs h'=>h=h'/\∃ i:Int,vs=[.bool false,.int .i64 i]) ⟨rfl,0,rfl,Nat.zero_le _,rfl⟩ ?_ ?_
 ·rintro Y l vs _ s ⟨rfl,i,rfl,F,rfl⟩;have G:=b.2.1;have v:=b.2.2.1;have hm:=d.2.1;refine yJ (fun e=>?_) (fun e=>?_)
  ·obtain⟨a,D,y,t,H,I,J,⟨q,m,r,K,o,B⟩,L⟩:=b.2.at (i:=i) (by omega);obtain⟨M,E,k,u,N,O,P,⟨A,z,c,Q,p,C⟩,R⟩:=d.2.at (i:=i) (by omega);rw[y]at k;cases k;have w:0<=(i:Int)/\(i:Int)<(f.n:Int):=by omega
   have j:0<=(i:Int)/\(i:Int)<(g.n:Int):=by omega
   refine Jk (fun vs h'=>vs=[.int .i64 a.kind,.int .i64 a.day,.int .i64 a.land,.slice q m r,.int .i64 a.since,.int .i64 a.kind,.int .i64 a.day,.int .i64 a.land,.slice A z c,.int .i64 a.since]/\h=h') ?_ ?_
   ·refine gZ ?_;refine Wo ?_ ?_<;>refine gZ ?_<;>exact Qj ⟨rfl,rfl⟩
   rintro vs _ ⟨rfl,rfl⟩;refine gZ ?_;refine Qt (fun b1=>by simp at b1) (fun _=>?_);refine Qt (fun b1=>by simp at b1) (fun _=>?_);refine Qt (fun b1=>by simp at b1) (fun _=>?_);refine Qt (fun b1=>by simp at b1) (fun _=>?_);refine t_pu (c35 B C) ?_;refine gZ ?_;refine Qt (fun b1=>by simp at b1) (fun _=>?_);refine Qj (s (f.n-(i+1)) _ _ (by omega) ⟨rfl,i+1,?_,by omega,rfl⟩);rw[Qo (by omega) (by omega)];rfl
  ·exact gH ⟨rfl,_,rfl⟩
 rintro vs _ ⟨rfl,i0,rfl⟩;refine gZ ?_;exact Qn ⟨rfl,rfl⟩
theorem textT_ne(x:TF):textT x≠[]:=by
 unfold textT rowsT;exact text_ne
def FinT(r:Value)(h':LH):Prop:=r=.bool true/\h'.chans=[]/\h'.pend=[]/\True
theorem U2{Q:Leaf->LH->Prop}{K:Value->T}{h':LH}(b:h.chans=[])(d:h.pend=[])(f:Tre.Kinds h.get)(c:h.le h')(e:∀ a,a.chans=[]/\a.pend=[]/\True->(K (.bool true)).wp XT Tryz.prog Q a):(T.call false 15 #[] K).wp XT Tryz.prog Q h':=by
 refine Jm (Tre.c2017 (c.2.1.trans b) (c.2.2.1.trans d) (f.le c.1)) ?_;rintro _ a ⟨rfl,_,h1,h2,_⟩;exact e a ⟨h1,h2,trivial⟩
theorem tfits_all(h:checkT x=0):TFits x:=tfits h fun e he n a=>((tsm h (H8 h)).ev e he).2.2.2.2.1 n a |>.fits
theorem parse_print(h:checkT x=0):parseT (textT x)=(x,0,0)/\parseT (textT x).dropLast=(x,0,0)/\(textT x).length<=11*400:=by
 have a:=Gy (tsm h (H8 h)) x.events.length;rw[Gz (Nat.le_refl _)]at a;exact⟨parse_textT (tfits_all h) h (by omega),parse_textT' (tfits_all h) h (by omega),a⟩
theorem c3703(k:h.chans=[])(l:h.pend=[])(m:Tre.Kinds h.get)(hw:KWords h.get)(A:PowT 5 h.get)(hu:TreatyR h.get f x):FW XT Tryz.prog 6 #[treatyV f x] h FinT:=by
 refine w3703 W9 ?_;refine t_pu (Tre.c2016 hu) ?_;refine yI (fun _=>?_) (fun y=>?_)
 ·exact U2 k l m (LH.le_refl _) fun h' n=>Qn ⟨rfl,n⟩
 refine t_gr (c3709 m hw A hu) ?_;rintro _ h1 i rfl;rcases Decidable.em (checkT x≠0) with c|c
 ·rw[printT_bad c,show printV ([],checkT x)=.tuple #[.string (str []),.int .i64 (checkT x)] from rfl];refine gZ ?_;refine Qx ?_;refine gZ ?_;refine Qt (fun _=>?_) (fun e=>absurd c (by simpa using e));refine Db (a:=[]) (b:=[]) undS ?_;refine gZ ?_;refine Qt (fun _=>?_) (fun e=>by simp at e);exact U2 k l m i fun h' n=>Qn ⟨rfl,n⟩
 have c:=Decidable.not_not.1 c;rw[printT_ok c (tsm c (H8 c)),show printV (textT x,0)=.tuple #[.string (str (textT x)),.int .i64 0] from rfl];obtain⟨u,v,C⟩:=parse_print c;have o:=textT_ne x;have w:=List.length_pos_iff.2 o;refine gZ ?_;refine Qx ?_;refine yF ?_;refine Jf undS ?_;refine gZ ?_;refine Qt (fun e=>absurd e (by simp;exact o)) (fun _=>?_);refine Jm (c3711 (m.le i.1) (hw.le i.1) (textT x)) ?_;rintro r h2 ⟨s,hr⟩;rw[u]at hr;obtain⟨g,rfl,z⟩:=hr;have d:=LH.le_trans i s;unfold treatyV;refine gZ ?_;refine Jk (fun vs h'=>vs=[.bool false]/\h2=h') ?_ ?_
 ·refine yF ?_;refine yF ?_;refine t_pu (c3713 z (⟨hu.1,hu.2.le EventE.grow d.1⟩ : TreatyR h2.get f x)) ?_;refine yF ?_;exact Qj ⟨rfl,rfl⟩
 rintro vs _ ⟨rfl,rfl⟩;refine gZ ?_;refine Jf undS ?_;refine gZ ?_;have q:wrap .i64 (((textT x).length:Int)-1)=(((textT x).length-1:Nat):Int):=by rw[Qo (by omega) (by omega)];omega
 rw[q];refine W2 undS (by omega) ?_;rw[<- List.dropLast_eq_take];refine Qx ?_;refine Jm (c3711 (m.le d.1) (hw.le d.1) (textT x).dropLast) ?_;rintro r h3 ⟨t,hr⟩;rw[v]at hr;obtain⟨B,rfl,p⟩:=hr;have j:=LH.le_trans d t;unfold treatyV;refine yT ?_;refine yT ?_;refine t_pu (c3713 p (⟨hu.1,hu.2.le EventE.grow j.1⟩ : TreatyR h3.get f x)) ?_;refine yT ?_;exact U2 k l m j fun h' n=>Qn ⟨rfl,n⟩
end Go.Y.Txt
end
section
namespace Go.Proofs.YtpkjbclajflhbaaGreatDoor
open Go.Y Go.Y.Tre
open Go.Y.Tre Go.ChangeShapes Go.WideShapes Go.RowKit
def doorW(os:Os):World :=
 { World.doorLaid Tryz.prog 200 os with heap:=(World.doorLaid Tryz.prog 200 os).heap.modify 8 fun o=>match o with
  | .cells _ t fz=>.cells (Go.Pinned.utf8FirstZ.map fun z:Nat=>Value.int .u8 (z:Int)).toArray t fz
  | o=>o }
theorem door_met(os:Os)(args:Array Value):laidMetH Tryz.prog Rows.treatyBackRow.laid ((doorW os).forCall (fun _ _=>0) ⟨#[],args,[]⟩).memory :=
 laidMetH_of_parts3 (fuel:=8) (laidMet_of_run' 8 (by kernel_rfl) (by kernel_rfl)) (by kernel_rfl) (by kernel_rfl)
theorem door_shaped(os:Os)(args:Array Value):((doorW os).forCall (fun _ _=>0) ⟨#[],args,[]⟩).Shaped Tryz.prog :=
 World.shaped_of_RefB (by kernel_rfl) (by kernel_rfl)
theorem treatyBack_lifted(os:Os)(started:os.Started)(H:Type)(enc:TypeId×Value->H) :
  ReturnsInLeavingWide {} Tryz.checked os 6 .any (fun w args=>(Rows.treatyBackSpec.pre enc Tryz.prog Tryz.f6 [] false w args/\laidMetH Tryz.prog Rows.treatyBackRow.laid w)/\sizedMet enc Tryz.prog Tryz.f6 (OpenSpec.ofChange Rows.treatyBackSpec) false w args)
   (Rows.treatyBackSpec.post enc Tryz.prog Tryz.f6 false true false false):=by
 refine row_leaving (C:=Tryz.checked) (tb:=4) own started Tryz.func6 (by kernel_rfl) rfl lo ?_ (by kernel_rfl) Tryz.underlying4 ?_
  (ChangeSpec.witness_shaped (enc:=enc) (C:=Tryz.checked) (os:=os) (X:=fun w _=>laidMetH Tryz.prog Rows.treatyBackRow.laid w) false (doorW os) #[noTreaty] 8 rfl (door_shaped os _) (by kernel_rfl) (by kernel_rfl) (by kernel_rfl) (door_met os _)) ?_
 ·exact fun t n=>of_decide_eq_true (List.all_eq_true.1 (show (Tryz.f6.params.toList.all fun t=>decide (Tryz.prog.readableRec t=true/\t<Tryz.prog.types.size))=true by kernel_rfl) t n)
 ·intro ds m
  match ds,(show ds.length=1 from m) with
  | [d0],_=>rfl
 ·intro W base args ds ps b c g e;have a:∀ (j:Nat) t v,Tryz.f6.params[j]?=some t->args[j]?=some v->Value.okWide Tryz.prog W .any base t v:=b;have l:∀ (j:Nat) t d,Tryz.f6.params.toList[j]?=some t->ds[j]?=some d->Light Tryz.prog t d:=g;have i:DataW.TrodAll enc Tryz.prog W 0 (fun _=>true) true Tryz.f6.params.toList args.toList ds ps:=c;rw[Tryz.params6]at a l i;obtain⟨v0,d0,o,rfl,rfl,rfl,h0⟩:=trodAll1 i;obtain⟨f0,p,rfl,f⟩:=treaty_arg TT (a 0 38 v0 rfl rfl) (l 0 38 d0 rfl rfl) h0;exact FW.mono (Txt.c3703 (h:=⟨getW W,[],[],[]⟩) rfl rfl (kinds_of_laid e (by repeat first|exact List.Mem.head _|apply List.Mem.tail) (by repeat first|exact List.Mem.head _|apply List.Mem.tail)) (words_of_laid e (by repeat first|exact List.Mem.head _|apply List.Mem.tail)) (pow_of_laid e (by repeat first|exact List.Mem.head _|apply List.Mem.tail)) f) fun r h' k=>⟨k.1,k.2.2.1⟩
set_option maxHeartbeats 0 in
theorem treatyBack_closed:joinedFacts Tryz.prog 6 Tryz.f6 Rows.treatyBackSpec Rows.treatyBackRow=true:=by
 unfold joinedFacts;simp only[Bool.and_eq_true]
 and_intros
 all_goals (as_aux_lemma=>kernel_rfl)
theorem treatyBack_named:Tryz.prog.funcNamed Rows.treatyBackRow.func=some 6:=by kernel_rfl
theorem treatyBack_row:Rows.TreatyBackSaid :=
 OpenClaim.holds_of_wide_leaving 6 Tryz.f6 rfl rfl rfl rfl rfl rfl rfl ⟨rfl,rfl,rfl,rfl,rfl⟩ rfl rfl rfl rfl rfl treatyBack_named Tryz.func6 treatyBack_closed
  (of_decide_eq_true (by kernel_rfl)) (by unfold Func.isWrapper;first|(rw[if_pos (by decide +kernel)];kernel_rfl)|(rw[if_neg (by decide +kernel)];exact⟨rfl,rfl⟩))
  (fun os started H enc _=>treatyBack_lifted os started H enc)
theorem treatyBack_holds:Rows.TreatyBackCardSaid :=
 card_goes [.data,.data,.data,.data,.sentinel,.sentinel,.data,.funcsDeep,.pinned] true Rows.treatyBackCard.stood.harness Rows.treatyBackCard.stood.looks treatyBack_row (by kernel_rfl) treatyBack_row_tie rfl ⟨rfl,rfl⟩ (by kernel_rfl) rfl
  (fun f fn b a=>by
   obtain rfl:f=6:=Option.some.inj (treatyBack_named.symm.trans b) |>.symm;obtain rfl:fn=Tryz.f6:=(Option.some.inj (Tryz.func6.symm.trans a)).symm;exact⟨by kernel_rfl,fun j t c=>by
    have hm:=Array.mem_of_getElem? c;have:=of_decide_eq_true (List.all_eq_true.1 (show (Tryz.f6.params.toList.all fun t=>decide (Tryz.prog.wantsStandIn t=false))=true by kernel_rfl) t (Array.mem_toList_iff.2 hm));exact this⟩)
  (by kernel_rfl)
end Go.Proofs.YtpkjbclajflhbaaGreatDoor
end
#print axioms Go.Proofs.YtpkjbclajflhbaaGreatDoor.treatyBack_holds
