/- Contracts and laws for the proof, joined by a program. No condition. -/
import Derived.Test.YtfkfohpnpljihaaGreatDoorM3
set_option linter.all false
noncomputable section
open Go.IntKind (wrap)
section
namespace Go.TM
open Go
structure GItem where
 name:ByteArray
 cls:Int
structure GMv where
 ed:Int
 src:Int
 dst:Int
structure GKn where
 ed:Int
 one:Int
 two:Int
 lev:Int
structure GTab where
 eds:List (List GItem)
 moves:List GMv
 kins:List GKn
def ItemE (h:Cells) (a:Addr) (x:GItem):Prop := h.cell? (a.add 0) = some (.string x.name) /\ h.cell? (a.add 1) = some (.int .i64 x.cls)
theorem ItemE.grow:Grow ItemE := fun _ _ _ _ hl h => ⟨hl _ _ h.1,hl _ _ h.2⟩
def EdE (h:Cells) (a:Addr) (l:List GItem):Prop := ∃ q n c,h.cell? (a.add 0) = some (.slice q n c) /\ Sl ItemE 2 h q n l
theorem EdE.grow:Grow EdE := fun _ _ _ _ hl ⟨q,n,c,h1,h2⟩ => ⟨q,n,c,hl _ _ h1,h2.rd ItemE.grow hl⟩
def MvE (h:Cells) (a:Addr) (x:GMv):Prop := h.cell? (a.add 0) = some (.int .i64 x.ed) /\ h.cell? (a.add 1) = some (.int .i64 x.src) /\ h.cell? (a.add 2) = some (.int .i64 x.dst)
theorem MvE.grow:Grow MvE := fun _ _ _ _ hl h => ⟨hl _ _ h.1,hl _ _ h.2.1,hl _ _ h.2.2⟩
def KnE (h:Cells) (a:Addr) (x:GKn):Prop := h.cell? (a.add 0) = some (.int .i64 x.ed) /\ h.cell? (a.add 1) = some (.int .i64 x.one) /\ h.cell? (a.add 2) = some (.int .i64 x.two) /\ h.cell? (a.add 3) = some (.int .i64 x.lev)
theorem KnE.grow:Grow KnE := fun _ _ _ _ hl h => ⟨hl _ _ h.1,hl _ _ h.2.1,hl _ _ h.2.2.1,hl _ _ h.2.2.2⟩
structure TabC where
 p0:Option Addr
 n0:Nat
 c0:Nat
 p1:Option Addr
 n1:Nat
 c1:Nat
 p2:Option Addr
 n2:Nat
 c2:Nat
def tabV (f:TabC):Value := .agg #[.slice f.p0 f.n0 f.c0,.slice f.p1 f.n1 f.c1,.slice f.p2 f.n2 f.c2]
structure TabR (h:Cells) (f:TabC) (t:GTab):Prop where
 eds:Sl EdE 1 h f.p0 f.n0 t.eds
 moves:Sl MvE 3 h f.p1 f.n1 t.moves
 kins:Sl KnE 4 h f.p2 f.n2 t.kins
theorem TabR.rd {h h':Cells} {f:TabC} {t:GTab} (hl:Rd h h') (r:TabR h f t):TabR h' f t := ⟨r.eds.rd EdE.grow hl,r.moves.rd MvE.grow hl,r.kins.rd KnE.grow hl⟩
theorem TabR.le {h h':Cells} {f:TabC} {t:GTab} (hl:h.le h') (r:TabR h f t):TabR h' f t := r.rd (Rd.of_le hl)
def letterB (c:UInt8):Bool := decide (97 <= c.toNat) && decide (c.toNat <= 122)
def digitB (c:UInt8):Bool := decide (48 <= c.toNat) && decide (c.toNat <= 57)
structure NameOk (s:ByteArray):Prop where
 size:1 <= s.size /\ s.size <= 10
 all:∀ (i:Nat) c,s.data[i]? = some c -> letterB c = true \/ (digitB c = true /\ i ≠ 0)
def GTab.items (t:GTab) (e:Int):List GItem := t.eds.getD e.toNat []
def itemB (t:GTab) (e n:Int):Prop := 0 <= e /\ e < (t.eds.length:Int) /\ 0 <= n /\ n < ((t.items e).length:Int)
structure EdOk (l:List GItem):Prop where
 many:l.length <= 8
 name:∀ x ∈ l,NameOk x.name
 cls:∀ x ∈ l,1 <= x.cls /\ x.cls <= 45
 once:∀ (i j:Nat) x y,i < j -> l[i]? = some x -> l[j]? = some y -> x.name ≠ y.name
structure TabOk (t:GTab):Prop where
 many:1 <= t.eds.length /\ t.eds.length <= 3
 eds:∀ l ∈ t.eds,EdOk l
 moves:t.moves.length <= 16
 move:∀ m ∈ t.moves,itemB t m.ed m.src /\ itemB t (m.ed + 1) m.dst
 moveOnce:∀ (i j:Nat) x y,i < j -> t.moves[i]? = some x -> t.moves[j]? = some y -> ¬ (x.ed = y.ed /\ x.src = y.src /\ x.dst = y.dst)
 kins:t.kins.length <= 10
 kin:∀ k ∈ t.kins,itemB t k.ed k.one /\ itemB t k.ed k.two /\ k.one < k.two /\ 1 <= k.lev /\ k.lev <= 5
 kinOnce:∀ (i j:Nat) x y,i < j -> t.kins[i]? = some x -> t.kins[j]? = some y -> ¬ (x.ed = y.ed /\ x.one = y.one /\ x.two = y.two)
theorem TabOk.items8 {t:GTab} (o:TabOk t) (e:Int):(t.items e).length <= 8 := by
 unfold GTab.items;rw [List.getD_eq_getElem?_getD];cases h:t.eds[e.toNat]? with
 | none => simp
 | some l => exact (o.eds l (List.mem_of_getElem? h)).many
section
variable {H:Type} {enc:TypeId × Value -> H} {P:Program} {W:World} {base:Nat} {sp:Nat -> Bool} {held:Bool} {fuel:Nat} {t:TypeId} {cs:List Value} {x:DataW H × List MemPlace}
structure GoodTy (P:Program) (tI tS tItem tItems tEd tEds tMv tMvs tKn tKns tTab:TypeId):Prop where
 int:P.underlying tI = some (.int .i64)
 int1:P.cellsOf tI = 1
 str:P.underlying tS = some .string
 str1:P.cellsOf tS = 1
 bytes:0 < P.bytesOf tItem /\ 0 < P.bytesOf tEd /\ 0 < P.bytesOf tMv /\ 0 < P.bytesOf tKn
 item:FieldsAre P tItem [(tS,0),(tI,1)]
 item2:P.cellsOf tItem = 2
 items:P.underlying tItems = some (.slice tItem)
 items1:P.cellsOf tItems = 1
 ed:FieldsAre P tEd [(tItems,0)]
 ed1:P.cellsOf tEd = 1
 eds:P.underlying tEds = some (.slice tEd)
 eds1:P.cellsOf tEds = 1
 mv:FieldsAre P tMv [(tI,0),(tI,1),(tI,2)]
 mv3:P.cellsOf tMv = 3
 mvs:P.underlying tMvs = some (.slice tMv)
 mvs1:P.cellsOf tMvs = 1
 kn:FieldsAre P tKn [(tI,0),(tI,1),(tI,2),(tI,3)]
 kn4:P.cellsOf tKn = 4
 kns:P.underlying tKns = some (.slice tKn)
 kns1:P.cellsOf tKns = 1
 tab:FieldsAre P tTab [(tEds,0),(tMvs,1),(tKns,2)]
 tab3:P.cellsOf tTab = 3
variable {tI tS tItem tItems tEd tEds tMv tMvs tKn tKns tTab:TypeId}
theorem items_of_trod (T:GoodTy P tI tS tItem tItems tEd tEds tMv tMvs tKn tKns tTab) (hz:Light P tItems x.1) (h:DataW.trod enc P W base sp held fuel tItems cs = some x) :
  ∃ p n c l,cs = [.slice p n c] /\ Sl ItemE 2 (getW W) p n l := by
 refine sl_of_trod T.items T.item2 T.bytes.1 hz ?_ h;intro n a cs y hl hc hy hz;obtain ⟨_,m,hf⟩ := field_of T.item hz hy
 match cs,hl with
 | [c0,c1],_ =>
  obtain ⟨y0,h0,_⟩ := hf 0 tS 0 rfl;obtain ⟨y1,h1,_⟩ := hf 1 tI 1 rfl;rw [T.str1] at h0; rw [T.int1] at h1;obtain ⟨s,e0,_⟩ := DataW.trod_string T.str h0;obtain ⟨v,e1,_,_⟩ := DataW.trod_int T.int h1;simp at e0 e1;subst e0; subst e1;exact ⟨⟨s,v⟩,hc 0 _ rfl,hc 1 _ rfl⟩
theorem eds_of_trod (T:GoodTy P tI tS tItem tItems tEd tEds tMv tMvs tKn tKns tTab) (hz:Light P tEds x.1) (h:DataW.trod enc P W base sp held fuel tEds cs = some x) :
  ∃ p n c l,cs = [.slice p n c] /\ Sl EdE 1 (getW W) p n l := by
 refine sl_of_trod T.eds T.ed1 T.bytes.2.1 hz ?_ h;intro n a cs y hl hc hy hz;obtain ⟨_,m,hf⟩ := field_of T.ed hz hy
 match cs,hl with
 | [c0],_ =>
  obtain ⟨y0,h0,zh0⟩ := hf 0 tItems 0 rfl;rw [T.items1] at h0;obtain ⟨p,k,c,l,e0,s⟩ := items_of_trod T zh0 h0;simp at e0;subst e0;exact ⟨l,p,k,c,hc 0 _ rfl,s⟩
theorem mvs_of_trod (T:GoodTy P tI tS tItem tItems tEd tEds tMv tMvs tKn tKns tTab) (hz:Light P tMvs x.1) (h:DataW.trod enc P W base sp held fuel tMvs cs = some x) :
  ∃ p n c l,cs = [.slice p n c] /\ Sl MvE 3 (getW W) p n l := by
 refine sl_of_trod T.mvs T.mv3 T.bytes.2.2.1 hz ?_ h;intro n a cs y hl hc hy hz;obtain ⟨_,m,hf⟩ := field_of T.mv hz hy
 match cs,hl with
 | [c0,c1,c2],_ =>
  obtain ⟨y0,h0,_⟩ := hf 0 tI 0 rfl;obtain ⟨y1,h1,_⟩ := hf 1 tI 1 rfl;obtain ⟨y2,h2,_⟩ := hf 2 tI 2 rfl;rw [T.int1] at h0 h1 h2;obtain ⟨a0,e0,_,_⟩ := DataW.trod_int T.int h0;obtain ⟨a1,e1,_,_⟩ := DataW.trod_int T.int h1;obtain ⟨a2,e2,_,_⟩ := DataW.trod_int T.int h2;simp at e0 e1 e2;subst e0; subst e1; subst e2;exact ⟨⟨a0,a1,a2⟩,hc 0 _ rfl,hc 1 _ rfl,hc 2 _ rfl⟩
theorem kns_of_trod (T:GoodTy P tI tS tItem tItems tEd tEds tMv tMvs tKn tKns tTab) (hz:Light P tKns x.1) (h:DataW.trod enc P W base sp held fuel tKns cs = some x) :
  ∃ p n c l,cs = [.slice p n c] /\ Sl KnE 4 (getW W) p n l := by
 refine sl_of_trod T.kns T.kn4 T.bytes.2.2.2 hz ?_ h;intro n a cs y hl hc hy hz;obtain ⟨_,m,hf⟩ := field_of T.kn hz hy
 match cs,hl with
 | [c0,c1,c2,c3],_ =>
  obtain ⟨y0,h0,_⟩ := hf 0 tI 0 rfl;obtain ⟨y1,h1,_⟩ := hf 1 tI 1 rfl;obtain ⟨y2,h2,_⟩ := hf 2 tI 2 rfl;obtain ⟨y3,h3,_⟩ := hf 3 tI 3 rfl;rw [T.int1] at h0 h1 h2 h3;obtain ⟨a0,e0,_,_⟩ := DataW.trod_int T.int h0;obtain ⟨a1,e1,_,_⟩ := DataW.trod_int T.int h1;obtain ⟨a2,e2,_,_⟩ := DataW.trod_int T.int h2;obtain ⟨a3,e3,_,_⟩ := DataW.trod_int T.int h3;simp at e0 e1 e2 e3;subst e0; subst e1; subst e2; subst e3;exact ⟨⟨a0,a1,a2,a3⟩,hc 0 _ rfl,hc 1 _ rfl,hc 2 _ rfl,hc 3 _ rfl⟩
theorem table_arg (T:GoodTy P tI tS tItem tItems tEd tEds tMv tMvs tKn tKns tTab) {r:Reach} {b0:Nat} {v:Value} {d:DataW H} {ps:List MemPlace}
  (hv:Value.okWide P W r b0 tTab v) (hz:Light P tTab d) (h:DataW.Trod enc P W base sp held tTab v d ps):∃ f y,v = tabV f /\ TabR (getW W) f y := by
 obtain ⟨fs,hu,_⟩ := T.tab;obtain ⟨cs,rfl,_⟩ := WideShapes.okWide_struct hu hv;obtain ⟨fuel,hf⟩ := h;obtain ⟨hl,m,hg⟩ := field_of T.tab hz hf;rw [T.tab3] at hl;have hl:cs.toList.length = 3 := hl;have hcs:∃ a b c,cs.toList = [a,b,c] := by
  match cs.toList,hl with
  | [a,b,c],_ => exact ⟨a,b,c,rfl⟩
 obtain ⟨a,b,c,hcs⟩ := hcs;have hc:(Value.agg cs).cells.toList = [a,b,c] := hcs;rw [hc] at hg;obtain ⟨y0,h0,zh0⟩ := hg 0 tEds 0 rfl;obtain ⟨y1,h1,zh1⟩ := hg 1 tMvs 1 rfl;obtain ⟨y2,h2,zh2⟩ := hg 2 tKns 2 rfl;rw [T.eds1] at h0; rw [T.mvs1] at h1; rw [T.kns1] at h2;obtain ⟨p0,n0,k0,l0,e0,s0⟩ := eds_of_trod T zh0 h0;obtain ⟨p1,n1,k1,l1,e1,s1⟩ := mvs_of_trod T zh1 h1;obtain ⟨p2,n2,k2,l2,e2,s2⟩ := kns_of_trod T zh2 h2;simp at e0 e1 e2;subst e0; subst e1; subst e2;exact ⟨⟨p0,n0,k0,p1,n1,k1,p2,n2,k2⟩,⟨l0,l1,l2⟩,agg_of hc,s0,s1,s2⟩
end
end Go.TM
end
section
namespace Go.Proofs.YtfkfohpnpljihaaGreatDoor
open Go Go.TM Go.Proofs Go.ChangeShapes Go.WideShapes Go.RowKit
set_option maxRecDepth 100000
theorem GT:GoodTy Tryz.prog 3 9 118 92 94 35 176 36 178 37 39 where
 int := by kernel_rfl
 int1 := by kernel_rfl
 str := by kernel_rfl
 str1 := by kernel_rfl
 bytes := ⟨of_decide_eq_true (by kernel_rfl),of_decide_eq_true (by kernel_rfl),of_decide_eq_true (by kernel_rfl),of_decide_eq_true (by kernel_rfl)⟩
 item := ⟨_,Tryz.underlying118,rfl⟩
 item2 := by kernel_rfl
 items := by kernel_rfl
 items1 := by kernel_rfl
 ed := ⟨_,Tryz.underlying94,rfl⟩
 ed1 := by kernel_rfl
 eds := by kernel_rfl
 eds1 := by kernel_rfl
 mv := ⟨_,Tryz.underlying176,rfl⟩
 mv3 := by kernel_rfl
 mvs := by kernel_rfl
 mvs1 := by kernel_rfl
 kn := ⟨_,Tryz.underlying178,rfl⟩
 kn4 := by kernel_rfl
 kns := by kernel_rfl
 kns1 := by kernel_rfl
 tab := ⟨_,Tryz.underlying39,rfl⟩
 tab3 := by kernel_rfl
end Go.Proofs.YtfkfohpnpljihaaGreatDoor
end
namespace Go.TM
section
open Go Go.Conc
variable {P:Program} {E:Halt -> Cells -> Prop} {h:Cells}
theorem str_beq (a b:ByteArray):(a == b) = true ↔ a = b := by
 obtain ⟨x⟩ := a;obtain ⟨y⟩ := b;show (x == y) = true ↔ _;rw [beq_iff_eq];constructor
 ·rintro rfl; rfl
 ·intro e; cases e; rfl
def isBas (P:Program) (t:TypeId) (v:Value):Prop := (P.underlying t = some (.int .i64) /\ ∃ n,v = .int .i64 n) \/ (P.underlying t = some .bool /\ ∃ b,v = .bool b) \/ (P.underlying t = some .string /\ ∃ s,v = .string s)
theorem isBas.agg {t:TypeId} {v:Value} (b:isBas P t v):∃ d,P.underlying t = some d /\ isAggT P t = false := by
 rcases b with ⟨hu,_⟩ | ⟨hu,_⟩ | ⟨hu,_⟩ <;> exact ⟨_,hu,by unfold isAggT; rw [hu]⟩
theorem lwp_partF {Q:Value -> Cells -> Prop} {t:TypeId} {cs:Array Value} {o:Nat} {v:Value} (b:isBas P t v) (hv:cs[o]? = some v) (hq:Q v h):Sem.lwp P (part t cs o) Q E h := by
 obtain ⟨d,hu,ha⟩ := b.agg;unfold part;rw [lwp_bind,lwp_isAgg_false hu ha];simp only [Bool.false_eq_true,if_false,hv];exact hq
theorem lwp_equalF {Q:Bool -> Cells -> Prop} {t:TypeId} {d:Nat} {a b:Value} (ha:isBas P t a) (hb:isBas P t b) (hq:∀ c:Bool,(c = true ↔ a = b) -> Q c h):Sem.lwp P (Op.equalIn (d + 1) t a b) Q E h := by
 unfold Op.equalIn;rcases ha with ⟨hu,n,rfl⟩ | ⟨hu,n,rfl⟩ | ⟨hu,n,rfl⟩ <;> rcases hb with ⟨hu',m,rfl⟩ | ⟨hu',m,rfl⟩ | ⟨hu',m,rfl⟩ <;> (rw [hu] at hu'; first | cases hu' | skip)
 ·rw [lwp_bind,lwp_underlying hu]; exact hq _ (by simp)
 ·rw [lwp_bind,lwp_underlying hu]; exact hq _ (by simp)
 ·rw [lwp_bind,lwp_underlying hu]; exact hq _ (by rw [str_beq]; simp)
theorem lwp_all {α σ:Type} {s0 s1:σ} {body:α -> σ -> Sem (ForInStep σ)} {c:α -> Bool}:∀ {l:List α} {Q:σ -> Cells -> Prop},(∀ f ∈ l,∀ {Q:ForInStep σ -> Cells -> Prop},Q (if c f then .yield s0 else .done s1) h -> Sem.lwp P (body f s0) Q E h) -> Q (if l.all c then s0 else s1) h -> Sem.lwp P (forIn l s0 body) Q E h
 | [],Q,_,hq => by
  rw [List.forIn_nil];exact hq
 | f :: l,Q,hb,hq => by
  rw [List.forIn_cons,lwp_bind];refine hb f (by simp) ?_;cases hc:c f with
  | true =>
   simp only [if_true];refine lwp_all (fun g hg => hb g (by simp [hg])) ?_;simpa [hc] using hq
  | false =>
   simp only [Bool.false_eq_true,if_false,lwp_pure];simpa [hc] using hq
inductive FlatAgg (P:Program) (t:TypeId) (vs:List Value):Prop where
 | str (fs : Array Field) (hu : P.underlying t = some (.struct fs)) (hs : P.stoodInHeld t = false) (hl : fs.toList.length = vs.length) (hf : ∀ (i : Nat) f v, fs.toList[i]? = some f -> vs[i]? = some v -> f.name ≠ "_" /\ f.offset = i /\ isBas P f.type v)
 | arr (n:Nat) (el:TypeId) (inf:TypeInfo) (hu:P.underlying t = some (.array n el)) (hi:P.info? el = some inf) (h1:inf.size = 1) (hl:vs.length = n) (hf:∀ v ∈ vs,isBas P el v)
def FKey (P:Program) (t:TypeId) (v:Value):Prop := isBas P t v \/ ∃ vs,v = .agg vs.toArray /\ FlatAgg P t vs
theorem list_all_eq {α:Type} {a b:List α} (hl:a.length = b.length) (h:∀ (i:Nat) x y,a[i]? = some x -> b[i]? = some y -> x = y):a = b := by
 refine List.ext_getElem? fun i => ?_;by_cases hi:i < a.length
 ·have ha := List.getElem?_eq_getElem hi;have hb := List.getElem?_eq_getElem (l := b) (i := i) (by omega);rw [ha,hb,h i _ _ ha hb]
 ·rw [List.getElem?_eq_none (by omega),List.getElem?_eq_none (by omega)]
open Classical in
theorem lwp_equalA {Q:Bool -> Cells -> Prop} {t:TypeId} {d:Nat} {ys bs:List Value} (ha:FlatAgg P t ys) (hb:FlatAgg P t bs) (hq:∀ c:Bool,(c = true ↔ ys = bs) -> Q c h):Sem.lwp P (Op.equalIn (d + 1 + 1) t (.agg ys.toArray) (.agg bs.toArray)) Q E h := by
 cases ha with
 | str fs hu hs hl hf =>
  cases hb with
  | arr n el inf hu' => rw [hu] at hu'; cases hu'
  | str fs' hu' hs' hl' hf' =>
   rw [hu] at hu'; cases hu';have key:(fs.toList.all fun f => decide (ys[f.offset]? = bs[f.offset]?)) = true ↔ ys = bs := by
    rw [List.all_eq_true];constructor
    ·intro hall;refine list_all_eq (by omega) fun i x y hx hy => ?_;have hi:i < fs.toList.length := by rw [hl]; exact (List.getElem?_eq_some_iff.1 hx).1
     have hfi := List.getElem?_eq_getElem hi;have h1 := of_decide_eq_true (hall _ (List.mem_of_getElem? hfi));rw [(hf i _ x hfi hx).2.1,hx,hy] at h1;exact Option.some.inj h1
    ·rintro rfl f _;simp
   unfold Op.equalIn;rw [lwp_bind,lwp_underlying hu];simp only [lwp_bind,lwp_program,hs,Bool.false_eq_true,if_false,<- Array.forIn_toList];refine lwp_all (s1 := ⟨some false,()⟩) (c := fun f => decide (ys[f.offset]? = bs[f.offset]?)) ?_ ?_
   ·intro f hfm Q hQ;obtain ⟨i,hi⟩ := List.mem_iff_getElem?.1 hfm;have hil:i < fs.toList.length := (List.getElem?_eq_some_iff.1 hi).1;have hx := List.getElem?_eq_getElem (l := ys) (i := i) (by omega);have hy := List.getElem?_eq_getElem (l := bs) (i := i) (by omega);obtain ⟨n1,o1,b1⟩ := hf i f _ hi hx;obtain ⟨_,_,b2⟩ := hf' i f _ hi hy;rw [if_pos n1];simp only [lwp_bind];refine lwp_partF b1 (by rw [o1]; simpa using hx) (lwp_partF b2 (by rw [o1]; simpa using hy) (lwp_equalF b1 b2 fun c hc => ?_));rw [o1,hx,hy] at hQ;cases c with
    | true =>
     have:ys[i] = bs[i] := hc.1 rfl;simp only [this,decide_true,if_true] at hQ;simpa [lwp_pure] using hQ
    | false =>
     have:¬ ys[i] = bs[i] := fun e => by cases hc.2 e
     have h2:¬ some ys[i] = some bs[i] := fun e => this (Option.some.inj e);simp only [h2,decide_false,Bool.false_eq_true,if_false] at hQ;simpa [lwp_pure] using hQ
   ·cases hall:(fs.toList.all fun f => decide (ys[f.offset]? = bs[f.offset]?)) with
    | true => simpa [lwp_pure] using hq true (by simpa [hall] using key)
    | false => simpa [lwp_pure] using hq false (by simpa [hall] using key)
 | arr n el inf hu hi h1 hl hf =>
  cases hb with
  | str fs' hu' => rw [hu] at hu'; cases hu'
  | arr n' el' inf' hu' hi' h1' hl' hf' =>
   rw [hu] at hu'; cases hu';rw [hi] at hi'; cases hi';have key:((List.range' 0 n).all fun i => decide (ys[i]? = bs[i]?)) = true ↔ ys = bs := by
    rw [List.all_eq_true];constructor
    ·intro hall;refine list_all_eq (by omega) fun i x y hx hy => ?_;have hi:i < n := by rw [<- hl]; exact (List.getElem?_eq_some_iff.1 hx).1
     have h1 := of_decide_eq_true (hall i (by simp [hi]));rw [hx,hy] at h1;exact Option.some.inj h1
    ·rintro rfl f _;simp
   unfold Op.equalIn;rw [lwp_bind,lwp_underlying hu];simp only [lwp_bind,lwp_sizeOf hi,h1,Nat.mul_one,Std.Legacy.Range.forIn_eq_forIn_range'];have hr:List.range' 0 ([:n]:Std.Legacy.Range).size = List.range' 0 n := by simp [Std.Legacy.Range.size]
   have hr':([:n]:Std.Legacy.Range).start = 0 /\ ([:n]:Std.Legacy.Range).step = 1 := ⟨rfl,rfl⟩
   refine lwp_all (s1 := ⟨some false,()⟩) (c := fun i => decide (ys[i]? = bs[i]?)) ?_ ?_
   ·intro i him Q hQ;have hin:i < n := by
     have := him;simp [Std.Legacy.Range.size] at this;omega
    have hx := List.getElem?_eq_getElem (l := ys) (i := i) (by omega);have hy := List.getElem?_eq_getElem (l := bs) (i := i) (by omega);have b1 := hf _ (List.mem_of_getElem? hx);have b2 := hf' _ (List.mem_of_getElem? hy);simp only [lwp_bind];refine lwp_partF (v := ys[i]) b1 ?_ ?_
    ·rw [List.getElem?_toArray]; exact hx
    refine lwp_partF (v := bs[i]) b2 ?_ ?_
    ·rw [List.getElem?_toArray]; exact hy
    refine lwp_equalF b1 b2 fun c hc => ?_;rw [hx,hy] at hQ;cases c with
    | true =>
     have:ys[i] = bs[i] := hc.1 rfl;simp only [this,decide_true,if_true] at hQ;simpa [lwp_pure] using hQ
    | false =>
     have:¬ ys[i] = bs[i] := fun e => by cases hc.2 e
     have h2:¬ some ys[i] = some bs[i] := fun e => this (Option.some.inj e);simp only [h2,decide_false,Bool.false_eq_true,if_false] at hQ;simpa [lwp_pure] using hQ
   ·have hall':(List.range' ([:n]:Std.Legacy.Range).start ([:n]:Std.Legacy.Range).size ([:n]:Std.Legacy.Range).step) = List.range' 0 n := by simp [Std.Legacy.Range.size]
    rw [hall'];cases hall:((List.range' 0 n).all fun i => decide (ys[i]? = bs[i]?)) with
    | true => simpa [lwp_pure] using hq true (by simpa [hall] using key)
    | false => simpa [lwp_pure] using hq false (by simpa [hall] using key)
theorem agg_inj {ys bs:List Value}:Value.agg ys.toArray = .agg bs.toArray ↔ ys = bs := by
 constructor
 ·intro e;injection e with e;simpa using e
 ·rintro rfl; rfl
theorem lwp_equalK {Q:Bool -> Cells -> Prop} {t:TypeId} {a b:Value} (ha:FKey P t a) (hb:FKey P t b) (hq:∀ c:Bool,(c = true ↔ a = b) -> Q c h):Sem.lwp P (Op.equal t a b) Q E h := by
 have hmd:Op.maxDepth = 9998 + 1 + 1 := rfl;unfold Op.equal;rw [hmd];rcases ha with ha | ⟨ys,rfl,ha⟩ <;> rcases hb with hb | ⟨bs,rfl,hb⟩
 ·exact lwp_equalF ha hb hq
 ·obtain ⟨d,hu,hn⟩ := ha.agg;cases hb <;> (unfold isAggT at hn; rename_i hu'; first | (rw [‹P.underlying t = some (.struct _)›] at hn; cases hn) | (rw [‹P.underlying t = some (.array _ _)›] at hn; cases hn))
 ·obtain ⟨d,hu,hn⟩ := hb.agg;cases ha <;> (unfold isAggT at hn; first | (rw [‹P.underlying t = some (.struct _)›] at hn; cases hn) | (rw [‹P.underlying t = some (.array _ _)›] at hn; cases hn))
 ·exact lwp_equalA ha hb fun c hc => hq c (by rw [agg_inj]; exact hc)
theorem lwp_checkKeyK {Q:Unit -> Cells -> Prop} {e:Bool} {kt:TypeId} {v:Value} (hk:FKey P kt v) (hq:Q () h):Sem.lwp P (Instr.checkKey e 10000 kt v) Q E h := by
 have one:∀ {Q:Unit -> Cells -> Prop} {d:Nat} {t:TypeId} {v:Value},isBas P t v -> Q () h -> Sem.lwp P (Instr.checkKey e (d + 1) t v) Q E h := by
  intro Q d t v hb hq;unfold Instr.checkKey;rcases hb with ⟨hu,n,rfl⟩ | ⟨hu,n,rfl⟩ | ⟨hu,n,rfl⟩ <;> (rw [lwp_bind,lwp_underlying hu]; exact hq)
 rcases hk with hb | ⟨vs,rfl,hf⟩
 ·exact one (d := 9999) hb hq
 ·rw [show (10000:Nat) = 9998 + 1 + 1 from rfl,Instr.checkKey];cases hf with
  | str fs hu hs hl hf =>
   rw [lwp_bind,lwp_underlying hu];simp only [lwp_bind,<- Array.forIn_toList];refine lwp_all (s1 := ()) (c := fun _ => true) ?_ (by simpa [lwp_pure] using hq);intro f hfm Q hQ;obtain ⟨i,hi⟩ := List.mem_iff_getElem?.1 hfm;have hil:i < fs.toList.length := (List.getElem?_eq_some_iff.1 hi).1;have hx := List.getElem?_eq_getElem (l := vs) (i := i) (by omega);obtain ⟨n1,o1,b1⟩ := hf i f _ hi hx;rw [if_pos n1];simp only [lwp_bind];refine lwp_partF (v := vs[i]) b1 (by rw [o1]; simpa using hx) (one b1 ?_);simpa [lwp_pure] using hQ
  | arr n el inf hu hi h1 hl hf =>
   rw [lwp_bind,lwp_underlying hu];simp only [lwp_bind,Std.Legacy.Range.forIn_eq_forIn_range'];refine lwp_all (s1 := ()) (c := fun _ => true) ?_ (by simpa [lwp_pure] using hq);intro i him Q hQ;have hin:i < n := by
    have := him;simp [Std.Legacy.Range.size] at this;omega
   have hx := List.getElem?_eq_getElem (l := vs) (i := i) (by omega);have b1 := hf _ (List.mem_of_getElem? hx);simp only [lwp_bind,lwp_sizeOf hi,h1,Nat.mul_one];refine lwp_partF (v := vs[i]) b1 ?_ ?_
   ·rw [List.getElem?_toArray]; exact hx
   refine one b1 ?_;simpa [lwp_pure] using hQ
theorem sameNow_iff {kd:TypeDesc} {a b:Value} {c:Bool} (h:Instr.sameNow kd a b = some c):c = true ↔ a = b := by
 unfold Instr.sameNow at h;split at h
 ·split at h
  ·rename_i e; cases h; subst e; simp
  ·cases h
 ·cases h; simp [str_beq]
 ·cases h; simp
 ·cases h
theorem findNow_spec {kd:TypeDesc} {k:Value}:∀ (es:List MapEntry) (i:Nat) (r:Option (Nat × Value)),Instr.findNow kd k es i = some r ->
  (∃ j e,es[j]? = some e /\ e.key = k /\ r = some (i + j,e.val)) \/ ((∀ e ∈ es,e.key ≠ k) /\ r = none)
 | [],i,r,h => by cases h; exact .inr ⟨fun e he => by simp at he,rfl⟩
 | e :: es,i,r,h => by
  unfold Instr.findNow at h;split at h
  ·rename_i hs;cases h;exact .inl ⟨0,e,rfl,((sameNow_iff hs).1 rfl).symm,rfl⟩
  ·rename_i hs;have hne:e.key ≠ k := fun hh => by have := (sameNow_iff hs).2 hh.symm; cases this
   rcases findNow_spec es (i + 1) r h with ⟨j,e',h1,h2,h3⟩ | ⟨h1,h2⟩
   ·exact .inl ⟨j + 1,e',by simpa using h1,h2,by rw [h3]; congr 2; omega⟩
   ·refine .inr ⟨fun e' he' => ?_,h2⟩;rcases List.mem_cons.1 he' with rfl | he'
    ·exact hne
    ·exact h1 e' he'
  ·cases h
theorem lwp_findAskingK {Q:Option (Nat × Value) -> Cells -> Prop} {kt:TypeId} {k:Value} (hk:FKey P kt k):∀ (es:List MapEntry) (i:Nat),(∀ e ∈ es,FKey P kt e.key) ->
  (∀ j e,es[j]? = some e -> e.key = k -> Q (some (i + j,e.val)) h) -> ((∀ e ∈ es,e.key ≠ k) -> Q none h) -> Sem.lwp P (Instr.findAsking kt k es i) Q E h
 | [],i,_,_,h2 => h2 fun e he => by simp at he
 | e :: es,i,hes,h1,h2 => by
  unfold Instr.findAsking;rw [lwp_bind];refine lwp_equalK hk (hes e (by simp)) fun c hc => ?_;cases c with
  | true =>
   simp only [if_true,lwp_pure];have := h1 0 e rfl (hc.1 rfl).symm;simpa using this
  | false =>
   have hne:e.key ≠ k := fun hh => by have := hc.2 hh.symm; cases this
   simp only [Bool.false_eq_true,if_false];refine lwp_findAskingK hk es (i + 1) (fun e' he' => hes e' (by simp [he'])) (fun j e' he' hk' => ?_) fun hno => h2 fun e' he' => ?_
   ·have := h1 (j + 1) e' (by simpa using he') hk';rw [show i + 1 + j = i + (j + 1) by omega]; exact this
   ·rcases List.mem_cons.1 he' with rfl | he'
    ·exact hne
    ·exact hno e' he'
theorem FKey.und {kt:TypeId} {k:Value} (hk:FKey P kt k):∃ d,P.underlying kt = some d := by
 rcases hk with hb | ⟨vs,rfl,hf⟩
 ·obtain ⟨d,hu,_⟩ := hb.agg; exact ⟨d,hu⟩
 ·cases hf <;> exact ⟨_,‹P.underlying kt = some _›⟩
theorem lwp_findKeyK {Q:Option (Nat × Value) -> Cells -> Prop} {kt:TypeId} {k:Value} {es:List MapEntry} (hk:FKey P kt k) (hes:∀ e ∈ es,FKey P kt e.key) (h1:∀ j e,es[j]? = some e -> e.key = k -> Q (some (j,e.val)) h) (h2:(∀ e ∈ es,e.key ≠ k) -> Q none h):Sem.lwp P (Instr.findKey kt k es) Q E h := by
 unfold Instr.findKey;obtain ⟨d,hu⟩ := hk.und;rw [lwp_bind,lwp_underlying hu];cases hr:Instr.findNow d k es 0 with
 | some r =>
  simp only [lwp_pure];rcases findNow_spec es 0 r hr with ⟨j,e,g1,g2,g3⟩ | ⟨g1,g2⟩
  ·rw [g3];have := h1 j e g1 g2;simpa using this
  ·rw [g2]; exact h2 g1
 | none =>
  exact lwp_findAskingK hk es 0 hes (fun j e he hke => by have := h1 j e he hke; simpa using this) h2
theorem sameBits_bas {t:TypeId} {v:Value} (b:isBas P t v) (d:Nat):Instr.sameBits d v v = true := by
 rcases b with ⟨_,n,rfl⟩ | ⟨_,n,rfl⟩ | ⟨_,n,rfl⟩ <;> unfold Instr.sameBits <;> simp [str_beq]
theorem sameBits_all:∀ {l:List Value},(∀ v ∈ l,Instr.sameBits 9999 v v = true) -> ((l.zip l).all fun (x,y) => Instr.sameBits 9999 x y) = true
 | [],_ => rfl
 | v :: l,hl => by
  simp only [List.zip_cons_cons,List.all_cons,Bool.and_eq_true];exact ⟨hl v (by simp),sameBits_all fun w hw => hl w (by simp [hw])⟩
theorem sameBits_flat {kt:TypeId} {k:Value} (hk:FKey P kt k):Instr.sameBits 10000 k k = true := by
 rcases hk with hb | ⟨vs,rfl,hf⟩
 ·exact sameBits_bas hb _
 ·rw [show (10000:Nat) = 9999 + 1 from rfl];unfold Instr.sameBits;simp only [beq_self_eq_true,Bool.true_and];refine sameBits_all fun v hv => ?_;cases hf with
  | str fs hu hs hl hf =>
   obtain ⟨i,hi⟩ := List.mem_iff_getElem?.1 (show v ∈ vs by simpa using hv);have hil:i < vs.length := (List.getElem?_eq_some_iff.1 hi).1;exact sameBits_bas (hf i _ v (List.getElem?_eq_getElem (by omega)) hi).2.2 _
  | arr n el inf hu hi h1 hl hf => exact sameBits_bas (hf v (by simpa using hv)) _
theorem lwp_lookupK {Q:Value -> Cells -> Prop} {t kt et:TypeId} {s b:Nat} {z:Value} {m:Nat} {es:Array MapEntry} {k:Value} {ok:Bool} (hu:P.underlying t = some (.map kt et)) (hi:(P.info? et).map (fun i => (i.size,i.bytes,i.zero)) = some (s,b,some z)) (hm:MapAt h m es) (hk:FKey P kt k) (hes:∀ e ∈ es.toList,FKey P kt e.key)
  (h1:∀ e ∈ es.toList,e.key = k -> Q (if ok then .tuple #[e.val,.bool true] else e.val) h) (h2:(∀ e ∈ es.toList,e.key ≠ k) -> Q (if ok then .tuple #[z,.bool false] else z) h):Sem.lwp P (Instr.lookup t (.map (some m)) k ok) Q E h := by
 obtain ⟨inf,g1,_,_,g4⟩ := info_of hi;obtain ⟨c,hmc⟩ := hm;unfold Instr.lookup;rw [lwp_bind,lwp_underlying hu];simp only [lwp_bind];refine ⟨_,_,hmc,trivial,?_⟩;show Sem.lwp P (_ >>= _) Q E h;rw [lwp_bind,lwp_pure,lwp_bind];refine lwp_checkKeyK hk ?_;rw [lwp_bind];refine lwp_findKeyK hk hes (fun j e he hek => ?_) fun hno => ?_
 ·simp only [lwp_pure,lwp_bind];have := h1 e (List.mem_of_getElem? he) hek;cases ok <;> exact this
 ·simp only [lwp_bind,lwp_zeroValue g1 g4,lwp_pure];have := h2 hno;cases ok <;> exact this
theorem lwp_mapUpdateK {Q:Unit -> Cells -> Prop} {t kt et:TypeId} {m:Nat} {es:Array MapEntry} {k v:Value} (hu:P.underlying t = some (.map kt et)) (hm:MapAt h m es) (hk:FKey P kt k) (hes:∀ e ∈ es.toList,FKey P kt e.key)
  (hq:∀ es' c,(∀ e ∈ es'.toList,(e.key = k /\ e.val = v) \/ e ∈ es.toList) -> Q () (h.upd m (true,.map es' c))):Sem.lwp P (Instr.mapUpdate t (.map (some m)) k v) Q E h := by
 obtain ⟨c,hmc⟩ := hm;unfold Instr.mapUpdate;rw [lwp_bind,lwp_underlying hu];simp only [lwp_bind];refine ⟨_,_,hmc,trivial,?_⟩;show Sem.lwp P (_ >>= _) _ E h;rw [lwp_bind];refine lwp_checkKeyK hk ?_;rw [lwp_bind];refine lwp_findKeyK hk hes (fun j e he hek => ?_) fun hno => ?_
 ·have he':es[j]? = some e := by rw [<- Array.getElem?_toList]; exact he
  simp only [lwp_bind,Instr.keyThatStays,he',Option.map_some,Option.getD_some,hek,sameBits_flat hk,if_true,lwp_pure];refine ⟨⟨_,hmc,trivial⟩,?_⟩;have hmem:∀ i:Nat,(es.modify j fun e => { e with key := k,val := v })[i]? = if i = j then (es[i]?).map (fun e => { e with key := k,val := v }) else es[i]? := by
   intro i; rw [Array.getElem?_modify]; by_cases hij:j = i
   ·subst hij; simp
   ·rw [if_neg hij,if_neg (Ne.symm hij)]
  refine hq _ _ (fun e2 he2 => ?_);obtain ⟨i,hi,hie⟩ := List.getElem_of_mem he2;have h3:(es.modify j fun e => { e with key := k,val := v })[i]? = some e2 := by rw [<- Array.getElem?_toList,List.getElem?_eq_getElem hi,hie]
  rw [hmem] at h3;by_cases hij:i = j
  ·rw [if_pos hij] at h3;cases h4:es[i]? with
   | none => rw [h4] at h3; cases h3
   | some e0 => rw [h4] at h3; simp only [Option.map_some,Option.some.injEq] at h3; subst h3; exact .inl ⟨rfl,rfl⟩
  ·rw [if_neg hij] at h3;right;exact List.mem_of_getElem? (i := i) (by rw [Array.getElem?_toList]; exact h3)
 ·refine ⟨⟨_,hmc,trivial⟩,?_⟩;refine hq _ _ (fun e2 he2 => ?_);simp only [Array.toList_push,List.mem_append,List.mem_singleton] at he2;rcases he2 with he2 | rfl
  ·exact .inr he2
  ·exact .inl ⟨rfl,rfl⟩
variable {X:XP} {Q:Leaf -> LH -> Prop}
theorem t_lookupK {h:LH} {K:Value -> T} {t kt et:TypeId} {s b:Nat} {z:Value} {m:Nat} {es:Array MapEntry} {k:Value} {ok:Bool} (hu:P.underlying t = some (.map kt et)) (hi:(P.info? et).map (fun i => (i.size,i.bytes,i.zero)) = some (s,b,some z)) (hm:MapAt h.get m es) (hk:FKey P kt k) (hes:∀ e ∈ es.toList,FKey P kt e.key)
  (h1:∀ e ∈ es.toList,e.key = k -> (K (if ok then .tuple #[e.val,.bool true] else e.val)).wp X P Q h) (h2:(∀ e ∈ es.toList,e.key ≠ k) -> (K (if ok then .tuple #[z,.bool false] else z)).wp X P Q h):(T.sem false (Instr.lookup t (.map (some m)) k ok) K).wp X P Q h :=
 t_sem (A := fun v h' => h' = h.get /\ (K v).wp X P Q h) (lwp_lookupK hu hi hm hk hes (fun e he hek => ⟨rfl,h1 e he hek⟩) fun hno => ⟨rfl,h2 hno⟩) (by rintro v h' ⟨rfl,hw⟩; exact hw)
theorem t_mapUpdateK {h:LH} {K:Value -> T} {t kt et:TypeId} {m:Nat} {es:Array MapEntry} {k v:Value} (hu:P.underlying t = some (.map kt et)) (hm:MapAt h.get m es) (hk:FKey P kt k) (hes:∀ e ∈ es.toList,FKey P kt e.key)
  (hq:∀ es' c,(∀ e ∈ es'.toList,(e.key = k /\ e.val = v) \/ e ∈ es.toList) -> (K (.tuple #[])).wp X P Q { h with get := h.get.upd m (true,.map es' c) }):(T.sem false (Sem.bind (Instr.mapUpdate t (.map (some m)) k v) fun _ => pure (.tuple #[])) K).wp X P Q h :=
 t_sem (A := fun w h' => w = .tuple #[] /\ ∃ es' c,(∀ e ∈ es'.toList,(e.key = k /\ e.val = v) \/ e ∈ es.toList) /\ h' = h.get.upd m (true,.map es' c))
  (Sem.lwp_bind _ _ (lwp_mapUpdateK hu hm hk hes fun es' c he => by rw [lwp_pure]; exact ⟨rfl,es',c,he,rfl⟩)) (by rintro w h' ⟨rfl,es',c,he,rfl⟩; exact hq es' c he)
theorem t_eqK {h:LH} {K:Value -> T} {t:TypeId} {x y:Operand} {ys bs:List Value} (ha:FlatAgg P t ys) (hb:FlatAgg P t bs) (hg:P.eqGuardType P.depth t = false) (hk:∀ c:Bool,(c = true ↔ ys = bs) -> (K (.bool c)).wp X P Q h) :
  (T.sem false (Sem.bind (eqGuard .eql t x y (.agg ys.toArray) (.agg bs.toArray)) fun _ => binOp .eql t (.agg ys.toArray) (.agg bs.toArray)) K).wp X P Q h := by
 refine t_sem (A := fun w h' => h' = h.get /\ (K w).wp X P Q h) (Sem.lwp_bind _ _ ?_) (by rintro w h' ⟨rfl,hw⟩; exact hw);unfold eqGuard;simp only [Bool.not_true,Bool.false_eq_true,if_false,lwp_bind,lwp_program,hg,Bool.not_false,if_true,lwp_pure];unfold binOp;rw [lwp_bind];refine lwp_equalK (.inr ⟨_,rfl,ha⟩) (.inr ⟨_,rfl,hb⟩) fun c hc => ⟨rfl,hk c (by rw [hc,agg_inj])⟩
theorem str_list (a b:ByteArray):(a.toList == b.toList) = true ↔ a = b := by
 rw [beq_iff_eq,ByteArray.toList_eq,ByteArray.toList_eq];obtain ⟨x⟩ := a;obtain ⟨y⟩ := b;constructor
 ·intro e;have:x = y := by apply Array.ext'; simpa using e
  rw [this]
 ·intro e; cases e; rfl
theorem t_eqStr {h:LH} {K:Value -> T} {t:TypeId} {x y:Operand} {a b:ByteArray} (hu:P.underlying t = some .string) (hk:∀ c:Bool,(c = true ↔ a = b) -> (K (.bool c)).wp X P Q h) :
  (T.sem false (Sem.bind (eqGuard .eql t x y (.string a) (.string b)) fun _ => binOp .eql t (.string a) (.string b)) K).wp X P Q h := by
 refine t_sem (A := fun w h' => h' = h.get /\ (K w).wp X P Q h) (Sem.lwp_bind _ _ ?_) (by rintro w h' ⟨rfl,hw⟩; exact hw);unfold eqGuard;simp only [Bool.not_true,Bool.false_eq_true,if_false,lwp_pure];unfold binOp;show Sem.lwp P (Op.stringOp .eql a b) _ _ _;unfold Op.stringOp;rw [lwp_pure];exact ⟨rfl,hk _ (str_list a b)⟩
theorem t_lenStr {h:LH} {K:Value -> T} {t t':TypeId} {s:ByteArray} (hu:P.underlying t = some .string) (hk:(K (.int .i64 (s.size:Int))).wp X P Q h):(T.sem false (Builtin.len_ #[t] t' #[.string s]) K).wp X P Q h := by
 refine t_sem (A := fun w h' => h' = h.get /\ (K w).wp X P Q h) ?_ (by rintro w h' ⟨rfl,hw⟩; exact hw);unfold Builtin.len_;change Sem.lwp P (underlying t >>= _) _ _ _;rw [lwp_bind,lwp_underlying hu];exact ⟨rfl,hk⟩
/-! ### Flat types, told by a look -/
inductive Bk where
 | i | b | s
def basB (P:Program) (t:TypeId) (k:Bk):Bool := match P.underlying t,k with
 | some (.int .i64),.i => true
 | some .bool,.b => true
 | some .string,.s => true
 | _,_ => false
def BasV:Bk -> Value -> Prop
 | .i,v => ∃ n,v = .int .i64 n
 | .b,v => ∃ n,v = .bool n
 | .s,v => ∃ n,v = .string n
theorem basB_is {t:TypeId} {k:Bk} {v:Value} (h:basB P t k = true) (hv:BasV k v):isBas P t v := by
 unfold basB at h;split at h
 ·rename_i hu; exact .inl ⟨hu,hv⟩
 ·rename_i hu; exact .inr (.inl ⟨hu,hv⟩)
 ·rename_i hu; exact .inr (.inr ⟨hu,hv⟩)
 ·cases h
def flatGo (P:Program):List Field -> List Bk -> Nat -> Bool
 | [],[],_ => true
 | f :: fs, k :: ks, i => f.name != "_" && Nat.beq f.offset i && basB P f.type k && flatGo P fs ks (i + 1)
 | _,_,_ => false
def flatB (P:Program) (t:TypeId) (ks:List Bk):Bool := match P.underlying t with
 | some (.struct fs) => flatGo P fs.toList ks 0 && !P.stoodInHeld t
 | _ => false
theorem flatGo_at : ∀ {fs : List Field} {ks : List Bk} {i : Nat}, flatGo P fs ks i = true -> fs.length = ks.length /\ ∀ (j : Nat) f k, fs[j]? = some f -> ks[j]? = some k -> f.name ≠ "_" /\ f.offset = i + j /\ basB P f.type k = true
 | [],[],i,_ => ⟨rfl,fun j f k h => by simp at h⟩
 | f :: fs,k :: ks,i,h => by
  unfold flatGo at h;simp only [Bool.and_eq_true,bne_iff_ne] at h;obtain ⟨⟨⟨h1,h2⟩,h3⟩,h4⟩ := h;obtain ⟨g1,g2⟩ := flatGo_at h4;refine ⟨by simp [g1],fun j f' k' hf hk => ?_⟩;cases j with
  | zero => simp at hf hk; subst hf; subst hk; exact ⟨h1,nbeq_true h2,h3⟩
  | succ j =>
   obtain ⟨a,b,c⟩ := g2 j f' k' (by simpa using hf) (by simpa using hk);exact ⟨a,by omega,c⟩
 | [],k :: ks,i,h => by cases h
 | f :: fs,[],i,h => by cases h
theorem flat_of {t:TypeId} {ks:List Bk} (h:flatB P t ks = true) {vs:List Value} (hl:vs.length = ks.length) (hv:∀ (i:Nat) k v,ks[i]? = some k -> vs[i]? = some v -> BasV k v):FlatAgg P t vs := by
 unfold flatB at h;split at h
 ·rename_i fs hu;simp only [Bool.and_eq_true,Bool.not_eq_true'] at h;obtain ⟨h1,h2⟩ := h;obtain ⟨g1,g2⟩ := flatGo_at h1;refine .str fs hu h2 (by omega) fun i f v hf hvi => ?_;have hik:i < ks.length := by have := (List.getElem?_eq_some_iff.1 hf).1; omega
  have hk := List.getElem?_eq_getElem hik;obtain ⟨a,b,c⟩ := g2 i f _ hf hk;exact ⟨a,by omega,basB_is c (hv i _ v hk hvi)⟩
 ·cases h
theorem flat_ints {t:TypeId} {vs:List Int} (h:flatB P t (vs.map fun _ => Bk.i) = true):FlatAgg P t (vs.map fun n => Value.int .i64 n) := by
 refine flat_of h (by simp) fun i k v hk hv => ?_;rw [List.getElem?_map] at hk hv;cases hx:vs[i]? with
 | none => rw [hx] at hk; cases hk
 | some n => rw [hx] at hk hv; cases hk; cases hv; exact ⟨n,rfl⟩
end
section
open Go Go.Conc
variable {P:Program} {E:Halt -> Cells -> Prop} {h:Cells}
def ByteE (h:Cells) (a:Addr) (c:UInt8):Prop := h.cell? (a.add 0) = some (.int .u8 (c.toNat:Int))
theorem freeze_upd {h:Cells} {r:Nat} {cs:Array Value} {el:TypeId} {k:Nat}:(h.upd r (true,.cells cs el (0,0))).freeze { block := r,off := k } 1 = h.upd r (true,.cells cs el (k,k + 1)) := by
 funext r';unfold Cells.freeze Cells.upd;by_cases e:r' = r
 ·subst e; simp [frzO]
 ·simp [e]
theorem lwp_bytes {Q:Value -> Cells -> Prop} {el:TypeId} {s:ByteArray} (hq:∀ r cap,h r = none -> s.size <= cap -> ∀ cs:Array Value,(∀ (i:Nat) c,s.data[i]? = some c -> cs[i]? = some (.int .u8 (c.toNat:Int))) -> Q (.slice (some ⟨r,0,none⟩) s.size cap) (h.upd r (true,.cells cs el (cs.size,cs.size + 1)))):Sem.lwp P (Conv.stringToBytes el s) Q E h := by
 unfold Conv.stringToBytes;rw [lwp_bind];show (if _ then _ else _);split
 ·rename_i hf; simp [Question.forced] at hf
 ·intro t;simp only [lwp_bind];refine lwp_newRow fun r hr => ?_;unfold markStringish;rw [lwp_bind];refine ⟨⟨_,Cells.upd_self _ _ _⟩,?_⟩;have hs:∀ (cs:Array Value),(h.upd r (true,.cells cs el (0,0))).shape? r = some (el,cs.size) := by
   intro cs; unfold Cells.shape?; rw [Cells.upd_self]
  simp only [hs];refine ⟨by decide,⟨_,Cells.upd_self _ _ _,fun _ => id⟩,?_⟩;rw [freeze_upd];refine hq r _ hr (Nat.le_add_right _ _) _ fun i c hc => ?_;have hi:i < s.data.size := (Array.getElem?_eq_some_iff.1 hc).1;rw [Array.getElem?_append_left (by simpa using hi),Array.getElem?_map,hc]; rfl
variable {X:XP} {Q:Leaf -> LH -> Prop}
theorem t_bytes {h:LH} {K:Value -> T} {src dst el:TypeId} {s:ByteArray} (h1:P.underlying src = some .string) (h2:P.underlying dst = some (.slice el)) (h3:P.underlying el = some (.int .u8)) (hs:s.size < 4611686018427387904)
  (hk:∀ r cap h',h.le h' -> Sl ByteE 1 h'.get (some ⟨r,0,none⟩) s.size s.data.toList -> (K (.slice (some ⟨r,0,none⟩) s.size cap)).wp X P Q h'):(T.sem false (convert src dst (.string s)) K).wp X P Q h := by
 refine t_sem (A := fun w h' => ∃ r cap,w = .slice (some ⟨r,0,none⟩) s.size cap /\ h.get.le h' /\ Sl ByteE 1 h' (some ⟨r,0,none⟩) s.size s.data.toList) ?_ (by rintro w h' ⟨r,cap,rfl,hl,hsl⟩; exact hk r cap _ ⟨hl,rfl,rfl,rfl⟩ hsl);unfold convert;simp only [lwp_bind,lwp_underlying h1,lwp_underlying h2,lwp_underlying h3];refine lwp_bytes fun r cap hr hcap cs hcs => ⟨r,cap,rfl,Cells.le_upd _ hr,?_⟩;refine ⟨by rw [Array.length_toList]; rfl,by rw [Array.length_toList]; exact hs,fun i c hc => ⟨_,rfl,?_⟩⟩;unfold ByteE;rw [add_plain,add_plain];simp only [Nat.zero_add,Nat.mul_one,Nat.add_zero];unfold Cells.cell?;rw [Cells.upd_self];exact hcs i c (by simpa using hc)
theorem t_indexS {h:LH} {K:Value -> T} {t:TypeId} {s:ByteArray} {i:Nat} {c:UInt8} (hu:P.underlying t = some .string) (hc:s.data[i]? = some c) (hk:(K (.int .u8 (c.toNat:Int))).wp X P Q h):(T.sem false (Instr.index t (.string s) (.int .i64 (i:Int))) K).wp X P Q h := by
 refine t_sem (A := fun w h' => h' = h.get /\ w = .int .u8 (c.toNat:Int)) ?_ (by rintro w h' ⟨rfl,rfl⟩; exact hk);unfold Instr.index;simp only [asIntOf,lwp_bind,lwp_pure,lwp_underlying hu];have hi:i < s.size := (Array.getElem?_eq_some_iff.1 hc).1;have h1:s[(i:Int).toNat]? = some c := by
  rw [Int.toNat_natCast,getElem?_pos s i hi];have := Array.getElem?_eq_getElem (xs := s.data) (i := i) hi;rw [this] at hc;exact hc
 rw [if_pos (by omega),h1];exact ⟨rfl,rfl⟩
end
end Go.TM
namespace Go.Proofs.YtfkfohpnpljihaaGreatDoor
section
open Go Go.TM Go.Proofs
attribute [local irreducible] T.wp CV FWK
def indexF (x:Int):Nat -> List Int -> Int
 | _,[] => -1
 | i,y :: l => if x == y then i else indexF x (i + 1) l
theorem indexF_ge (x:Int):∀ (l:List Int) (i:Nat),decide (indexF x i l >= 0) = l.contains x := by
 intro l
 induction l with
 | nil => intro i; rfl
 | cons y l ih =>
  intro i;rw [indexF,List.contains_cons];split
  ·rename_i h; rw [h]; simp
  ·rename_i h;have h':(x == y) = false := by simpa using h
   rw [ih,h',Bool.false_or]
theorem c106 {h:LH} {p:Option Addr} {n c:Nat} {l:List Int} (hl:Sl IntE 1 h.get p n l) (x:Int):Pu Tryz.prog 171 #[.slice p n c,.int .i64 x] h (.int .i64 (indexF x 0 l)) := by
 refine w106 _ _ _ _ X0_ok ?_;unfold n106;have hn := hl.1;have hb := hl.2.1;refine t_loop (fun m vs h' => h' = h /\ ∃ i:Nat,vs = [.int .i64 0,.int .i64 i] /\ i <= n /\ m = n - i /\ indexF x 0 l = indexF x i (l.drop i)) ⟨rfl,0,rfl,Nat.zero_le _,rfl,rfl⟩ ?_;rintro Y m vs _ hY ⟨rfl,i,rfl,hi,rfl,hc⟩;refine gZ ?_;refine t_if (fun e1 => ?_) (fun e1 => ?_)
 ·obtain ⟨y,a,hx,ha,e2⟩ := hl.at (i := i) (by omega);unfold IntE at e2;refine gZ ?_;rw [drop_of hx,indexF] at hc;refine t_cond (fun e3 => ?_) (fun e3 => ?_)
  ·refine gZ ?_;refine t_ret ⟨?_,rfl⟩;rw [hc,if_pos e3]
  ·refine t_again (hY (n - (i + 1)) _ _ (by omega) ⟨rfl,i + 1,?_,by omega,rfl,?_⟩)
   ·rw [wrap_id (by omega) (by omega)]; rfl
   ·rw [hc,if_neg (by simp [e3])]
 ·refine gZ ?_;refine t_ret ⟨?_,rfl⟩;rw [hc,List.drop_eq_nil_of_le (by omega)]; rfl
theorem c100 {h:LH} {p:Option Addr} {n c:Nat} {l:List Int} (hl:Sl IntE 1 h.get p n l) (x:Int):Pu Tryz.prog 125 #[.slice p n c,.int .i64 x] h (.bool (l.contains x)) := by
 refine w100 _ _ _ _ X0_ok ?_;unfold n100;refine t_pu (c106 hl x) ?_;refine gZ ?_;refine t_ret ⟨?_,rfl⟩;rw [indexF_ge]
theorem c80 {h:LH} {z:Addr} {d:Int} (hz:h.get.cell? z = some (.int .i64 d)) (a b:Int):Pu Tryz.prog 98 #[.agg #[.int .i64 a,.int .i64 b],.pointer (some z)] h (.bool (isIn d a b)) := by
 refine w80 _ _ _ X0_ok ?_;unfold n80;refine gZ ?_;refine t_pu (c81 _ _ _) ?_;refine gZ ?_;exact t_ret ⟨rfl,rfl⟩
def placeF {α:Type} (f:α -> Bool):Nat -> List α -> Int
 | _,[] => -1
 | i,y :: l => if f y then i else placeF f (i + 1) l
theorem placeF_ge {α:Type} (f:α -> Bool):∀ (l:List α) (i:Nat),decide (placeF f i l >= 0) = l.any f := by
 intro l
 induction l with
 | nil => intro i; rfl
 | cons y l ih =>
  intro i;rw [placeF,List.any_cons];split
  ·rename_i h; rw [h]; simp
  ·rename_i h;have h':f y = false := by simpa using h
   rw [ih,h',Bool.false_or]
theorem c98 {h:LH} {p:Option Addr} {n c:Nat} {l:List Span} {fv:Value} {g:Span -> Bool} (hl:Sl SpanE 2 h.get p n l) (hf:∀ x h',h.le h' -> CV X0 Tryz.prog fv #[.agg #[.int .i64 x.first,.int .i64 x.last]] h' fun r h'' => h'.le h'' /\ r = .bool (g x)) :
  Gr Tryz.prog 142 #[.slice p n c,fv] h fun r _ => r = .int .i64 (placeF g 0 l) := by
 refine w98 _ _ _ _ X0_ok ?_;unfold n98;have hn := hl.1;have hb := hl.2.1;refine t_loop (fun m vs h' => h.le h' /\ ∃ i:Nat,vs = [.int .i64 0,.int .i64 i] /\ i <= n /\ m = n - i /\ placeF g 0 l = placeF g i (l.drop i)) ⟨LH.le_refl _,0,rfl,Nat.zero_le _,rfl,rfl⟩ ?_;rintro Y m vs h₁ hY ⟨hle,i,rfl,hi,rfl,hc⟩;refine gZ ?_;refine t_if (fun e1 => ?_) (fun e1 => ?_)
 ·obtain ⟨x,a,hx,ha,e2,e4⟩ := (hl.le SpanE.grow hle.1).at (i := i) (by omega);refine gZ ?_;refine t_callv (hf x h₁ hle) ?_;rintro _ h₂ ⟨hle2,rfl⟩;refine gZ ?_;rw [drop_of hx,placeF] at hc;refine t_cond (fun e3 => ?_) (fun e3 => ?_)
  ·refine gZ ?_;refine t_ret ⟨LH.le_trans hle hle2,?_⟩;rw [hc,if_pos e3]
  ·refine t_again (hY (n - (i + 1)) _ _ (by omega) ⟨LH.le_trans hle hle2,i + 1,?_,by omega,rfl,?_⟩)
   ·rw [wrap_id (by omega) (by omega)]; rfl
   ·rw [hc,if_neg (by simp [e3])]
 ·refine gZ ?_;refine t_ret ⟨hle,?_⟩;rw [hc,List.drop_eq_nil_of_le (by omega)]; rfl
theorem c79 {h:LH} {p:Option Addr} {n c:Nat} {l:List Span} {fv:Value} {g:Span -> Bool} (hl:Sl SpanE 2 h.get p n l) (hf:∀ x h',h.le h' -> CV X0 Tryz.prog fv #[.agg #[.int .i64 x.first,.int .i64 x.last]] h' fun r h'' => h'.le h'' /\ r = .bool (g x)) :
  Gr Tryz.prog 97 #[.slice p n c,fv] h fun r _ => r = .bool (l.any g) := by
 refine w79 _ _ _ _ X0_ok ?_;unfold n79;refine t_gr (c98 hl hf) ?_;rintro _ h' hle rfl;refine gZ ?_;refine t_ret ⟨hle,?_⟩;rw [placeF_ge]
def Asks (v:Value) (h:LH) (u:UseFile) (g:Int):Prop := numbersF u = 0 -> ∀ (f:FileC) h',h.le h' -> FileR h'.get f u -> CV X0 Tryz.prog v #[fileV f u] h' fun r h'' => h'.le h'' /\ r = .int .i64 g
theorem Asks.le {v:Value} {h h':LH} {u:UseFile} {g:Int} (hl:h.le h') (a:Asks v h u g):Asks v h' u g := fun hn f h2 hl2 => a hn f h2 (LH.le_trans hl hl2)
theorem c82 {h:LH} {f:FileC} {u:UseFile} {z:Addr} {d:Int} (hz:h.get.cell? z = some (.int .i64 d)):Pu Tryz.prog 100 #[fileV f u,.pointer (some z)] h (.int .i64 (if isDay d then 0 else 1)) := by
 refine w82 _ _ _ _ _ _ _ _ _ _ _ _ _ _ X0_ok ?_;unfold n82;refine gZ ?_;refine t_pu (c84 _) ?_;refine gZ ?_;refine t_pu (c83 _ _) ?_;refine gZ ?_;refine t_ret ⟨?_,rfl⟩;unfold isDay;cases isIn d 0 2000 <;> rfl
theorem c85 {h:LH} {f:FileC} {u:UseFile} (hl:IsI (u.lands - 1)) {z:Addr} {d:Int} (hz:h.get.cell? z = some (.int .i64 d)):Pu Tryz.prog 103 #[fileV f u,.pointer (some z)] h (.int .i64 (if isIn d 0 (u.lands - 1) then 0 else 6)) := by
 refine w85 _ _ _ _ _ _ _ _ _ _ _ _ _ _ X0_ok ?_;unfold n85;refine gZ ?_;refine t_pu (c86 (f := f) hl _) ?_;refine gZ ?_;refine t_pu (c83 _ _) ?_;refine gZ ?_;refine t_ret ⟨?_,rfl⟩;cases isIn d 0 (u.lands - 1) <;> rfl
theorem c87 {h:LH} {f:FileC} {u:UseFile} (hl:IsI (u.items - 1)) {z:Addr} {d:Int} (hz:h.get.cell? z = some (.int .i64 d)):Pu Tryz.prog 105 #[fileV f u,.pointer (some z)] h (.int .i64 (if isIn d 0 (u.items - 1) then 0 else 6)) := by
 refine w87 _ _ _ _ _ _ _ _ _ _ _ _ _ _ X0_ok ?_;unfold n87;refine gZ ?_;rw [wrap_id hl.1 hl.2];refine t_pu (c81 _ _ _) ?_;refine gZ ?_;refine t_pu (c83 _ _) ?_;refine gZ ?_;refine t_ret ⟨?_,rfl⟩;cases isIn d 0 (u.items - 1) <;> rfl
def dayQ (d:Int):Int := if isDay d then 0 else 1
def landQ (u:UseFile) (d:Int):Int := if isIn d 0 (u.lands - 1) then 0 else 6
def itemQ (u:UseFile) (d:Int):Int := if isIn d 0 (u.items - 1) then 0 else 6
theorem c54 {h:LH} (u:UseFile) (d:Int):Gr Tryz.prog 59 #[.int .i64 d] h fun r h' => (∃ fn a b,r = Value.func fn a b) /\ Asks r h' u (dayQ d) := by
 refine w54 _ X0_ok ?_;unfold n54;refine t_new fun r hr => ?_;have hz:Cells.cell? (h.get.upd r (true,.cells #[.int .i64 d] 3 (0,0))) ⟨r,0,none⟩ = some (.int .i64 d) := cell_upd rfl;refine t_ret ⟨LH.upd_le hr,⟨_,_,_,rfl⟩,fun hn f h' hle _ => ?_⟩;exact cv_fw X0_ok (by rfl) (pu_gr (c82 (Cells.cell?_le hle.1 hz)))
theorem c58 {h:LH} (u:UseFile) (d:Int):Gr Tryz.prog 61 #[.int .i64 d] h fun r h' => (∃ fn a b,r = Value.func fn a b) /\ Asks r h' u (landQ u d) := by
 refine w58 _ X0_ok ?_;unfold n58;refine t_new fun r hr => ?_;have hz:Cells.cell? (h.get.upd r (true,.cells #[.int .i64 d] 3 (0,0))) ⟨r,0,none⟩ = some (.int .i64 d) := cell_upd rfl;refine t_ret ⟨LH.upd_le hr,⟨_,_,_,rfl⟩,fun hn f h' hle _ => ?_⟩;exact cv_fw X0_ok (by rfl) (pu_gr (c85 (num_lands hn) (Cells.cell?_le hle.1 hz)))
theorem c59 {h:LH} (u:UseFile) (d:Int):Gr Tryz.prog 62 #[.int .i64 d] h fun r h' => (∃ fn a b,r = Value.func fn a b) /\ Asks r h' u (itemQ u d) := by
 refine w59 _ X0_ok ?_;unfold n59;refine t_new fun r hr => ?_;have hz:Cells.cell? (h.get.upd r (true,.cells #[.int .i64 d] 3 (0,0))) ⟨r,0,none⟩ = some (.int .i64 d) := cell_upd rfl;refine t_ret ⟨LH.upd_le hr,⟨_,_,_,rfl⟩,fun hn f h' hle _ => ?_⟩;exact cv_fw X0_ok (by rfl) (pu_gr (c87 (num_items hn) (Cells.cell?_le hle.1 hz)))
end
section
open Go Go.TM Go.Proofs
attribute [local irreducible] T.wp CV FWK
def De (f:FuncId) (args:Array Value) (h:LH) (d m:Nat) (fc:FileC) (u:UseFile) (V:Value -> LH -> Prop):Prop := FW X0 Tryz.prog f args h fun r h' => Mv m h h' /\ Desk h'.get d m fc u /\ V r h'
theorem t_de {X:XP} {Q:Leaf -> LH -> Prop} {h:LH} {f:FuncId} {args:Array Value} {d m:Nat} {fc:FileC} {u:UseFile} {k:Value -> T} {V:Value -> LH -> Prop} (c:De f args h d m fc u V) (hk:∀ v h',Mv m h h' -> Desk h'.get d m fc u -> V v h' -> (k v).wp X Tryz.prog Q h'):(T.call false f args k).wp X Tryz.prog Q h :=
 t_call (FW.top c) fun v h' ha => hk v h' ha.1 ha.2.1 ha.2.2
theorem two119:twoInts Tryz.prog 188 = true := by kernel_rfl
theorem two30:twoInts Tryz.prog 29 = true := by kernel_rfl
theorem i64_3:isI64 Tryz.prog 3 = true := by kernel_rfl
theorem Desk.updMap {h:Cells} {d m:Nat} {f:FileC} {u:UseFile} (k:Desk h d m f u) {es':Array MapEntry} {c:Nat} (he:∀ e ∈ es'.toList,∃ day:Int,e.key = .agg #[.int .i64 day,.int .i64 u.idle] /\ e.val = .agg #[.int .i64 (window u day).first,.int .i64 day]):Rd h (h.upd m (true,.map es' c)) /\ Desk (h.upd m (true,.map es' c)) d m f u := by
 have hr:Rd h (h.upd m (true,.map es' c)) := by
  intro a v hc;have hne:a.block ≠ m := by
   intro e;obtain ⟨es,c,hm⟩ := k.isMap;unfold Cells.cell? at hc;rw [e,hm] at hc; cases hc
  unfold Cells.cell? at hc ⊢;rw [Cells.upd_ne _ _ hne]; exact hc
 exact ⟨hr,k.file.rd hr,k.rep.rd hr,fun j hj => hr _ _ (k.counts j hj),hr _ _ k.mapp,_,_,Cells.upd_self _ _ _,he⟩
theorem Mv.updMap {m:Nat} {h:LH} {es':Array MapEntry} {c:Nat}:Mv m h { h with get := h.get.upd m (true,.map es' c) } :=
 ⟨fun r x hr hx => by show Cells.upd _ _ _ r = _; rw [Cells.upd_ne _ _ hr]; exact hx,fun _ _ _ => ⟨es',c,Cells.upd_self _ _ _⟩,rfl,rfl,rfl⟩
theorem c55 {h:LH} {d m:Nat} {f:FileC} {u:UseFile} (k:Desk h.get d m f u) (hid:1 <= u.idle /\ u.idle <= 2000) (day:Int) (hd:0 <= day /\ day <= 2000) :
  De 60 #[.pointer (some ⟨d,0,none⟩),.int .i64 day] h d m f u fun r _ => r = .agg #[.int .i64 (window u day).first,.int .i64 day] := by
 refine w55 _ _ X0_ok ?_;unfold n55;obtain ⟨f0,f1,f2,f3,f4,f5,f6⟩ := k.file;have hmp := k.mapp;obtain ⟨es,c,hm,hes⟩ := k.map;have hkey:∀ e ∈ es.toList,IsKey Tryz.prog 188 e.key := fun e he => by obtain ⟨dy,h1,_⟩ := hes e he; exact .inr ⟨two119,dy,u.idle,h1⟩
 have hkey':IsKey Tryz.prog 188 (.agg #[.int .i64 day,.int .i64 u.idle]) := .inr ⟨two119,_,_,rfl⟩;have found:∀ e ∈ es.toList,e.key = .agg #[.int .i64 day,.int .i64 u.idle] -> e.val = .agg #[.int .i64 (window u day).first,.int .i64 day] := by
  intro e he hk;obtain ⟨dy,h1,h2⟩ := hes e he;rw [hk] at h1;simp only [Value.agg.injEq,Array.mk.injEq,List.cons.injEq,Value.int.injEq,and_true,true_and] at h1;rw [h2,h1]
 refine gZ ?_;refine t_blk (fun vs h' => vs = [.int .i64 0,.int .i64 0] /\ h = h') ?_ ?_
 ·refine gZ ?_;refine t_both ?_ ?_
  ·refine t_lookup und111 inf30 ⟨c,hm⟩ hkey' hkey (fun e he hk => ?_) fun hno => ?_
   ·rw [found e he hk];simp only [if_true];refine gZ ?_;refine t_cond (fun _ => ?_) (fun e => by cases e);refine gZ ?_;exact t_ret ⟨Mv.refl,k,rfl⟩
   ·simp only [if_true];refine gZ ?_;refine t_cond (fun e => by cases e) (fun _ => ?_);exact t_again ⟨rfl,rfl⟩
  ·refine gZ ?_;refine t_lookup und111 inf30 ⟨c,hm⟩ hkey' hkey (fun e he hk => ?_) fun hno => ?_
   ·rw [found e he hk];simp only [if_true];refine gZ ?_;refine t_cond (fun _ => ?_) (fun e => by cases e);refine gZ ?_;exact t_ret ⟨Mv.refl,k,rfl⟩
   ·simp only [if_true];refine gZ ?_;refine t_cond (fun e => by cases e) (fun _ => ?_);exact t_again ⟨rfl,rfl⟩
 ·rintro vs _ ⟨rfl,rfl⟩;refine gZ ?_;refine t_loop (fun mm vs h' => h = h' /\ ∃ (x:Nat) (n:Int),vs = [.int .i64 (u.idle - n),.int .i64 x,.int .i64 day] /\ x <= 2000 /\ 0 <= n /\ n < u.idle /\ x = mm /\ firstDay (counts u) u.idle day.toNat 0 = firstDay (counts u) u.idle x n)
   ⟨rfl,day.toNat,0,by simp; omega,by omega,by omega,by omega,rfl,rfl⟩ ?_
  rintro Y mm vs _ hY ⟨rfl,x,n,rfl,hx,hn0,hn1,rfl,hc⟩;have fin:∀ (w:Int),w = (window u day).first -> ∀ {K:Value -> T} {Q:Leaf -> LH -> Prop},(∀ h',Mv m h h' -> Desk h'.get d m f u -> (K undef).wp X0 Tryz.prog Q h') -> (T.sem false (Sem.bind (Instr.mapUpdate 180 (.map (some m)) (.agg #[.int .i64 day,.int .i64 u.idle]) (.agg #[.int .i64 w,.int .i64 day])) fun _ => pure (.tuple #[])) K).wp X0 Tryz.prog Q h := by
   intro w hw K Q hK;refine t_mapUpdate und111 ⟨c,hm⟩ hkey' hkey fun es' c' h1 _ _ => hK _ Mv.updMap (Desk.updMap k fun e he => ?_).2;rcases h1 e he with ⟨h1,h2⟩ | h1
   ·exact ⟨day,h1,by rw [h2,hw]⟩
   ·exact hes e h1
  refine gZ ?_;refine t_if (fun e1 => ?_) (fun e1 => ?_)
  ·have hcell:h.get.cell? ((Addr.add ⟨d,0,none⟩ 7).add ((x:Int).toNat * 1)) = some (.bool (counts u x)) := by
    have h7:0 + 7 + (x:Int).toNat * 1 = 7 + x := by omega
    rw [add_plain,add_plain,h7]; exact k.counts x (by omega)
   obtain ⟨y,rfl⟩ : ∃ y,x = y + 1 := ⟨x - 1,by omega⟩
   refine gZ ?_;rw [firstDay] at hc;refine t_cond (fun e2 => ?_) (fun e2 => ?_)
   ·have hin:(if counts u ((y + 1:Nat):Int) = true then n + 1 else n) = n + 1 := if_pos e2;simp only [hin] at hc;rw [wrap_id (by omega) (by omega)];refine t_cond (fun e3 => ?_) (fun e3 => ?_)
    ·refine gZ ?_;have e3':u.idle - n - 1 = 0 := by simpa using e3
     rw [if_pos (by omega)] at hc;refine fin _ (by rw [window]; exact hc.symm) fun h' hv hk => ?_;exact t_ret ⟨hv,hk,by rw [window,hc]⟩
    ·have e3':u.idle - n - 1 ≠ 0 := by simpa using e3
     rw [if_neg (by omega)] at hc;refine t_again (hY y _ _ (by omega) ⟨rfl,y,n + 1,?_,by omega,by omega,by omega,rfl,hc⟩);have a1:u.idle - n - 1 = u.idle - (n + 1) := by omega
     have a2:((y + 1:Nat):Int) - 1 = (y:Int) := by omega
     rw [wrap_id (by omega) (by omega),a1,a2]
   ·have hin:(if counts u ((y + 1:Nat):Int) = true then n + 1 else n) = n := if_neg (by rw [e2]; simp);simp only [hin] at hc;refine t_cond (fun e3 => ?_) (fun e3 => ?_)
    ·exfalso;have e3':u.idle - n = 0 := by simpa using e3
     omega
    ·rw [if_neg (by omega)] at hc;refine t_again (hY y _ _ (by omega) ⟨rfl,y,n,?_,by omega,by omega,by omega,rfl,hc⟩);have a2:((y + 1:Nat):Int) - 1 = (y:Int) := by omega
     rw [wrap_id (by omega) (by omega),a2]
  ·refine gZ ?_;obtain rfl:x = 0 := by omega
   rw [firstDay] at hc;refine fin _ (by rw [window]; exact hc.symm) fun h' hv hk => ?_;exact t_ret ⟨hv,hk,by rw [window,hc]; rfl⟩
end
section
open Go Go.TM Go.Proofs
attribute [local irreducible] T.wp CV FWK
def AskSl (h:LH) (p:Option Addr) (n:Nat) (u:UseFile) (l:List Int):Prop :=
 n = l.length /\ l.length < 4611686018427387904 /\ ∀ i g,l[i]? = some g -> ∃ a v,p = some a /\ h.get.cell? (a.add (i * 1)) = some v /\ Asks v h u g
def deskOf (f:FileC) (u:UseFile) (m:Nat):Array Value := match buildV Tryz.prog 183 [(0,fileV f u),(2,.map (some m))] with
 | some (.agg cs) => cs
 | _ => #[]
set_option maxRecDepth 100000 in
theorem deskOf_build (f:FileC) (u:UseFile) (m:Nat):buildV Tryz.prog 183 [(0,fileV f u),(2,.map (some m))] = some (.agg (deskOf f u m)) := by kernel_rfl
theorem deskOf_size (f:FileC) (u:UseFile) (m:Nat):(deskOf f u m).size = 2009 := by kernel_rfl
theorem deskOf_0 (f:FileC) (u:UseFile) (m:Nat):(deskOf f u m)[0]? = some (.int .i64 u.items) := by kernel_rfl
theorem deskOf_1 (f:FileC) (u:UseFile) (m:Nat):(deskOf f u m)[1]? = some (.int .i64 u.lands) := by kernel_rfl
theorem deskOf_2 (f:FileC) (u:UseFile) (m:Nat):(deskOf f u m)[2]? = some (.int .i64 u.from_) := by kernel_rfl
theorem deskOf_3 (f:FileC) (u:UseFile) (m:Nat):(deskOf f u m)[3]? = some (.int .i64 u.idle) := by kernel_rfl
theorem deskOf_4 (f:FileC) (u:UseFile) (m:Nat):(deskOf f u m)[4]? = some (.slice f.p4 f.n4 f.c4) := by kernel_rfl
theorem deskOf_5 (f:FileC) (u:UseFile) (m:Nat):(deskOf f u m)[5]? = some (.slice f.p5 f.n5 f.c5) := by kernel_rfl
theorem deskOf_6 (f:FileC) (u:UseFile) (m:Nat):(deskOf f u m)[6]? = some (.slice f.p6 f.n6 f.c6) := by kernel_rfl
theorem deskOf_m (f:FileC) (u:UseFile) (m:Nat):(deskOf f u m)[2008]? = some (.map (some m)) := by kernel_rfl
attribute [irreducible] deskOf
def openF (u:UseFile) (l:List Int):Int := if checkF u ≠ 0 then checkF u else firstF (fun _ x => x) 0 l
def Opened (h h':LH) (f:FileC) (u:UseFile) (g:Int) (r:Value):Prop :=
 h.le h' /\ ((g ≠ 0 /\ r = .tuple #[.pointer none,.int .i64 g]) \/ (g = 0 /\ ∃ d m,r = .tuple #[.pointer (some ⟨d,0,none⟩),.int .i64 0] /\ h.get d = none /\ h.get m = none /\ Desk h'.get d m f u))
theorem setCell_upd {h:Cells} {r i:Nat} {m:Bool} {cs:Array Value} {el:TypeId} {v:Value} (hr:h r = some (m,.cells cs el (0,0))):h.setCell ⟨r,i,none⟩ v = h.upd r (m,.cells (cs.setIfInBounds i v) el (0,0)) := by
 funext b;unfold Cells.setCell Cells.upd;by_cases e:b = r
 ·subst e; simp [hr]
 ·simp [e]
theorem frozen_plain {h:Cells} {r i:Nat} {m:Bool} {cs:Array Value} {el:TypeId} (hr:h r = some (m,.cells cs el (0,0))):h.frozen? ⟨r,i,none⟩ = false := by
 simp [Cells.frozen?,hr]
theorem c53 {h:LH} {f:FileC} {u:UseFile} {p:Option Addr} {n c:Nat} {l:List Int} (hp:Parts h.get) (hu:FileR h.get f u) (hw:AskSl h p n u l) :
  FW X0 Tryz.prog 58 #[fileV f u,.slice p n c] h fun r h' => Opened h h' f u (openF u l) r := by
 refine w53 _ _ _ _ _ _ _ _ _ _ _ _ _ _ _ _ X0_ok ?_;unfold n53;refine t_gr (c26 hp hu) ?_;rintro _ h₁ le1 rfl;refine gZ ?_;refine t_cond (fun e0 => ?_) (fun e0 => ?_)
 ·have e0':checkF u ≠ 0 := by simpa using e0
  refine t_ret ⟨le1,.inl ⟨?_,?_⟩⟩
  ·rw [openF,if_pos e0']; exact e0'
  ·rw [openF,if_pos e0']
 have e0':checkF u = 0 := by simpa using e0
 have hn0 := check_num e0';have ho:openF u l = firstF (fun _ x => x) 0 l := by rw [openF,if_neg (by simp [e0'])]
 have hn := hw.1;have hb := hw.2.1;refine t_loop (fun mm vs h' => h.le h' /\ ∃ i:Nat,vs = [.pointer none,.int .i64 0,.int .i64 i] /\ i <= n /\ mm = n - i /\ openF u l = firstF (fun _ x => x) i (l.drop i)) ⟨le1,0,rfl,Nat.zero_le _,rfl,ho⟩ ?_;rintro Y mm vs h₂ hY ⟨hle,i,rfl,hi,rfl,hc⟩;refine gZ ?_;refine t_if (fun e1 => ?_) (fun e1 => ?_)
 ·obtain ⟨g,hg⟩ : ∃ g,l[i]? = some g := ⟨l[i]'(by omega),List.getElem?_eq_getElem (by omega)⟩
  obtain ⟨a,v,ha,hv,hask⟩ := hw.2.2 i g hg;have hv2 := Cells.cell?_le hle.1 hv;refine gT (by omega) (gS2 ha (t_loadV hv2 ?_));refine t_callv (hask hn0 f h₂ hle (hu.le hle.1)) ?_;rintro _ h₃ ⟨le3,rfl⟩;refine gZ ?_;rw [drop_of hg,firstF] at hc;refine t_cond (fun e2 => ?_) (fun e2 => ?_)
  ·have e2':g ≠ 0 := by simpa using e2
   refine gZ ?_;rw [if_pos e2'] at hc;exact t_ret ⟨LH.le_trans hle le3,.inl ⟨by rw [hc]; exact e2',by rw [hc]⟩⟩
  ·have e2':g = 0 := by simpa using e2
   rw [if_neg (by simp [e2'])] at hc;refine t_again (hY (n - (i + 1)) _ _ (by omega) ⟨LH.le_trans hle le3,i + 1,?_,by omega,rfl,hc⟩);rw [wrap_id (by omega) (by omega)]; rfl
 ·refine gZ ?_;rw [List.drop_eq_nil_of_le (by omega),firstF] at hc;refine t_makeMap fun m hm => ?_;refine gZ ?_;have le4:h₂.le _ := LH.upd_le (x := (true,.map #[] 0)) hm;refine t_struct (deskOf_build f u m) ?_;refine t_new fun d hd => ?_;have le5:LH.le _ _ := LH.upd_le (x := (true,.cells (deskOf f u m) 183 (0,0))) hd;have hdm:d ≠ m := by
   rintro rfl;change Cells.upd _ _ _ d = none at hd;rw [Cells.upd_self] at hd; cases hd
  have hd0:h.get d = none := by
   cases hx:h.get d with
   | none => rfl
   | some x => rw [(LH.le_trans hle le4).1 _ _ hx] at hd; cases hd
  have hm0:h.get m = none := by
   cases hx:h.get m with
   | none => rfl
   | some x => rw [hle.1 _ _ hx] at hm; cases hm
  refine t_loop (fun mm vs h' => ∃ (i:Nat) (cs:Array Value),vs = [.int .i64 i] /\ i <= 2001 /\ mm = 2001 - i /\ h₂.le h' /\ h'.get m = some (true,.map #[] 0) /\ h'.get d = some (true,.cells cs 183 (0,0)) /\ cs.size = 2009 /\ (∀ j,j < 7 \/ j = 2008 -> cs[j]? = (deskOf f u m)[j]?) /\ ∀ j:Nat,j < i -> cs[7 + j]? = some (.bool (counts u j)))
   (n := 2001) ⟨0,deskOf f u m,rfl,by omega,by omega,LH.le_trans le4 le5,?_,Cells.upd_self _ _ _,deskOf_size _ _ _,fun _ _ => rfl,fun j hj => by omega⟩ ?_
  ·show Cells.upd _ _ _ m = _;rw [Cells.upd_ne _ _ (Ne.symm hdm)]; exact Cells.upd_self _ _ _
  rintro Y2 mm2 vs2 h₆ hY2 ⟨j,cs,rfl,hj,rfl,le6,hm6,hd6,hsz,hfix,hcnt⟩;refine gZ ?_;refine t_if (fun e5 => ?_) (fun e5 => ?_)
  ·refine t_new fun r1 hr1 => ?_;have hr1d:r1 ≠ d := by rintro rfl; rw [hd6] at hr1; cases hr1
   have hr1m:r1 ≠ m := by rintro rfl; rw [hm6] at hr1; cases hr1
   have le7:h₆.le _ := LH.upd_le (x := (true,.cells #[.int .i64 0] 3 (0,0))) hr1;have own1:(h₆.get.upd r1 (true,.cells #[.int .i64 0] 3 (0,0))) r1 = some (true,.cells #[.int .i64 0] 3 (0,0)) := Cells.upd_self _ _ _;refine t_store rfl ⟨_,own1⟩ (v₀ := .int .i64 0) (by show Cells.cell? _ _ = _; exact cell_upd rfl) (frozen_plain (i := 0) own1) ?_;have hset:(h₆.get.upd r1 (true,.cells #[.int .i64 0] 3 (0,0))).setCell ⟨r1,0,none⟩ (.int .i64 j) = h₆.get.upd r1 (true,.cells #[.int .i64 j] 3 (0,0)) := by
    rw [setCell_upd own1];funext b; unfold Cells.upd; by_cases e:b = r1 <;> simp [e]
   have hset':(h₆.get.upd r1 (true,.cells #[.int .i64 0] 3 (0,0))).setCell (Addr.add ⟨r1,0,none⟩ 0) (.int .i64 j) = h₆.get.upd r1 (true,.cells #[.int .i64 j] 3 (0,0)) := hset;simp only [hset'];have le8:h₆.le { h₆ with get := h₆.get.upd r1 (true,.cells #[.int .i64 j] 3 (0,0)) } := LH.upd_le hr1;have hz:Cells.cell? (h₆.get.upd r1 (true,.cells #[.int .i64 j] 3 (0,0))) ⟨r1,0,none⟩ = some (.int .i64 j) := cell_upd rfl;refine gL0 hz ?_;refine gS2 rfl ?_;refine t_gr (c79 (g := fun x => isIn j x.first x.last) (hu.le (LH.le_trans (LH.le_trans hle le6) le8).1).excuses fun x h' hl' => cv_fw X0_ok (by rfl) (pu_gr (c80 (Cells.cell?_le hl'.1 hz) _ _))) ?_;rintro _ h₉ le9 rfl;have hz9 := Cells.cell?_le le9.1 hz;have hd9 := (LH.le_trans le8 le9).1 _ _ hd6;refine gZ ?_;have hcl:h₉.get.cell? ⟨d,7 + j,none⟩ = some (cs[7 + j]'(by omega)) := by
    simp only [Cells.cell?,hd9];simp [show 7 + j < cs.size by omega]
   have ha7:Addr.add (Addr.add (Addr.add ⟨d,0,none⟩ 7) ((j:Int).toNat * 1)) 0 = ⟨d,7 + j,none⟩ := by
    have h7:0 + 7 + (j:Int).toNat * 1 + 0 = 7 + j := by omega
    rw [add_plain,add_plain,add_plain,h7]
   refine t_store rfl ?_ (v₀ := cs[7 + j]'(by omega)) ?_ ?_ ?_
   ·rw [ha7]; exact ⟨_,hd9⟩
   ·rw [ha7]; exact hcl
   ·rw [ha7]; exact frozen_plain hd9
   rw [ha7,setCell_upd hd9];refine gZ ?_;refine t_again (hY2 (2001 - (j + 1)) _ _ (by omega) ⟨j + 1,_,?_,by omega,rfl,?_,?_,Cells.upd_self _ _ _,by rw [Array.size_setIfInBounds]; exact hsz,?_,?_⟩)
   ·rw [wrap_id (by omega) (by omega)]; rfl
   ·have := LH.le_trans (LH.le_trans le6 le8) le9;refine ⟨fun b x hb => ?_,this.2⟩;have hbd:b ≠ d := by
     rintro rfl;rw [le4.1 _ _ hb] at hd; cases hd
    show Cells.upd _ _ _ b = _;rw [Cells.upd_ne _ _ hbd]; exact this.1 _ _ hb
   ·show Cells.upd _ _ _ m = _;rw [Cells.upd_ne _ _ (Ne.symm hdm)]; exact (LH.le_trans le8 le9).1 _ _ hm6
   ·intro i hi;rw [Array.getElem?_setIfInBounds_ne (by omega)]; exact hfix i hi
   ·intro i hi;by_cases e:i = j
    ·subst e;rw [Array.getElem?_setIfInBounds_self,if_pos (by omega)];congr 2;simp only [counts,List.not_any_eq_all_not]
    ·rw [Array.getElem?_setIfInBounds_ne (by omega)]; exact hcnt i (by omega)
  ·refine gZ ?_;have hcell:∀ i v,cs[i]? = some v -> h₆.get.cell? (Addr.add ⟨d,0,none⟩ i) = some v := by
    intro i v hv;rw [add_plain,Nat.zero_add];simp only [Cells.cell?,hd6];simpa using hv
   have hcell':∀ i v,cs[i]? = some v -> h₆.get.cell? ⟨d,i,none⟩ = some v := by
    intro i v hv;simp only [Cells.cell?,hd6];simpa using hv
   refine t_ret ⟨LH.le_trans hle le6,.inr ⟨hc,d,m,rfl,hd0,hm0,?_,hu.le (LH.le_trans hle le6).1,?_,?_,?_⟩⟩
   ·exact ⟨hcell _ _ ((hfix 0 (by omega)).trans (deskOf_0 _ _ _)),hcell _ _ ((hfix 1 (by omega)).trans (deskOf_1 _ _ _)),hcell _ _ ((hfix 2 (by omega)).trans (deskOf_2 _ _ _)),hcell _ _ ((hfix 3 (by omega)).trans (deskOf_3 _ _ _)),
     hcell _ _ ((hfix 4 (by omega)).trans (deskOf_4 _ _ _)),hcell _ _ ((hfix 5 (by omega)).trans (deskOf_5 _ _ _)),hcell _ _ ((hfix 6 (by omega)).trans (deskOf_6 _ _ _))⟩
   ·intro i hi;exact hcell' _ _ (hcnt i (by omega))
   ·exact hcell' _ _ ((hfix 2008 (.inr rfl)).trans (deskOf_m _ _ _))
   ·exact ⟨_,_,hm6,fun e he => by simp at he⟩
end
section
open Go Go.TM Go.Proofs
attribute [local irreducible] T.wp CV FWK
theorem Mv.le_of {m:Nat} {h h₁ h':LH} (hle:h.le h₁) (hm:h.get m = none) (mv:Mv m h₁ h'):h.le h' := by
 refine ⟨fun r x hr => mv.keep r x ?_ (hle.1 r x hr),mv.same.1.trans hle.2.1,mv.same.2.1.trans hle.2.2.1,mv.same.2.2.trans hle.2.2.2⟩;rintro rfl; rw [hm] at hr; cases hr
theorem asks1 {h:LH} {X:XP} {Q:Leaf -> LH -> Prop} {k:Value -> T} {u:UseFile} {v0:Value} {g0:Int} (q0:∃ fn a b,v0 = Value.func fn a b) (a0:Asks v0 h u g0) (hk:∀ r h',h.le h' -> AskSl h' (some ⟨r,0,none⟩) 1 u [g0] -> (k (.slice (some ⟨r,0,none⟩) 1 1)).wp X Tryz.prog Q h'):(T.sem false (Instr.buildSlice 179 1 #[(0,v0)]) k).wp X Tryz.prog Q h := by
 obtain ⟨fn0,x0,y0,rfl⟩ := q0;refine t_build und110 inf87 (by decide) (by decide) (cells := #[.func fn0 x0 y0]) (by kernel_rfl) fun r hr => ?_;have le1:h.le _ := LH.upd_le (x := (true,.cells #[.func fn0 x0 y0] 124 (0,0))) hr;refine hk r _ le1 ⟨rfl,by show 1 < _; omega,?_⟩;intro i g hg;have hc:∀ i v,(#[.func fn0 x0 y0]:Array Value)[i]? = some v -> Cells.cell? (h.get.upd r (true,.cells #[.func fn0 x0 y0] 124 (0,0))) (Addr.add ⟨r,0,none⟩ (i * 1)) = some v := by
  intro i v hv;rw [add_plain,Nat.zero_add,Nat.mul_one];exact cell_upd hv
 match i,hg with
 | 0,hg => simp at hg; subst hg; exact ⟨_,_,rfl,hc 0 _ rfl,a0.le le1⟩
 | i + 1,hg => simp at hg
theorem asks2 {h:LH} {X:XP} {Q:Leaf -> LH -> Prop} {k:Value -> T} {u:UseFile} {v0 v1:Value} {g0 g1:Int} (q0:∃ fn a b,v0 = Value.func fn a b) (a0:Asks v0 h u g0) (q1:∃ fn a b,v1 = Value.func fn a b) (a1:Asks v1 h u g1) (hk:∀ r h',h.le h' -> AskSl h' (some ⟨r,0,none⟩) 2 u [g0,g1] -> (k (.slice (some ⟨r,0,none⟩) 2 2)).wp X Tryz.prog Q h'):(T.sem false (Instr.buildSlice 179 2 #[(0,v0),(1,v1)]) k).wp X Tryz.prog Q h := by
 obtain ⟨fn0,x0,y0,rfl⟩ := q0;obtain ⟨fn1,x1,y1,rfl⟩ := q1;refine t_build und110 inf87 (by decide) (by decide) (cells := #[.func fn0 x0 y0,.func fn1 x1 y1]) (by kernel_rfl) fun r hr => ?_;have le1:h.le _ := LH.upd_le (x := (true,.cells #[.func fn0 x0 y0,.func fn1 x1 y1] 124 (0,0))) hr;refine hk r _ le1 ⟨rfl,by show 2 < _; omega,?_⟩;intro i g hg;have hc:∀ i v,(#[.func fn0 x0 y0,.func fn1 x1 y1]:Array Value)[i]? = some v -> Cells.cell? (h.get.upd r (true,.cells #[.func fn0 x0 y0,.func fn1 x1 y1] 124 (0,0))) (Addr.add ⟨r,0,none⟩ (i * 1)) = some v := by
  intro i v hv;rw [add_plain,Nat.zero_add,Nat.mul_one];exact cell_upd hv
 match i,hg with
 | 0,hg => simp at hg; subst hg; exact ⟨_,_,rfl,hc 0 _ rfl,a0.le le1⟩
 | 1,hg => simp at hg; subst hg; exact ⟨_,_,rfl,hc 1 _ rfl,a1.le le1⟩
 | i + 2,hg => simp at hg
theorem asks3 {h:LH} {X:XP} {Q:Leaf -> LH -> Prop} {k:Value -> T} {u:UseFile} {v0 v1 v2:Value} {g0 g1 g2:Int} (q0:∃ fn a b,v0 = Value.func fn a b) (a0:Asks v0 h u g0) (q1:∃ fn a b,v1 = Value.func fn a b) (a1:Asks v1 h u g1) (q2:∃ fn a b,v2 = Value.func fn a b) (a2:Asks v2 h u g2) (hk:∀ r h',h.le h' -> AskSl h' (some ⟨r,0,none⟩) 3 u [g0,g1,g2] -> (k (.slice (some ⟨r,0,none⟩) 3 3)).wp X Tryz.prog Q h'):(T.sem false (Instr.buildSlice 179 3 #[(0,v0),(1,v1),(2,v2)]) k).wp X Tryz.prog Q h := by
 obtain ⟨fn0,x0,y0,rfl⟩ := q0;obtain ⟨fn1,x1,y1,rfl⟩ := q1;obtain ⟨fn2,x2,y2,rfl⟩ := q2;refine t_build und110 inf87 (by decide) (by decide) (cells := #[.func fn0 x0 y0,.func fn1 x1 y1,.func fn2 x2 y2]) (by kernel_rfl) fun r hr => ?_;have le1:h.le _ := LH.upd_le (x := (true,.cells #[.func fn0 x0 y0,.func fn1 x1 y1,.func fn2 x2 y2] 124 (0,0))) hr;refine hk r _ le1 ⟨rfl,by show 3 < _; omega,?_⟩;intro i g hg;have hc:∀ i v,(#[.func fn0 x0 y0,.func fn1 x1 y1,.func fn2 x2 y2]:Array Value)[i]? = some v -> Cells.cell? (h.get.upd r (true,.cells #[.func fn0 x0 y0,.func fn1 x1 y1,.func fn2 x2 y2] 124 (0,0))) (Addr.add ⟨r,0,none⟩ (i * 1)) = some v := by
  intro i v hv;rw [add_plain,Nat.zero_add,Nat.mul_one];exact cell_upd hv
 match i,hg with
 | 0,hg => simp at hg; subst hg; exact ⟨_,_,rfl,hc 0 _ rfl,a0.le le1⟩
 | 1,hg => simp at hg; subst hg; exact ⟨_,_,rfl,hc 1 _ rfl,a1.le le1⟩
 | 2,hg => simp at hg; subst hg; exact ⟨_,_,rfl,hc 2 _ rfl,a2.le le1⟩
 | i + 3,hg => simp at hg
theorem open_num {u:UseFile} {l:List Int} (h:openF u l = 0):numbersF u = 0 /\ checkF u = 0 := by
 unfold openF at h;split at h
 ·rename_i h1; exact absurd h h1
 ·rename_i h1;have:checkF u = 0 := by simpa using h1
  exact ⟨check_num this,this⟩
theorem firstF_zero {l:List Int}:∀ {i:Nat},firstF (fun _ x => x) i l = 0 -> ∀ x ∈ l,x = 0 := by
 induction l with
 | nil => intro i _ x hx; simp at hx
 | cons y l ih =>
  intro i h x hx;unfold firstF at h;split at h
  ·rename_i h1; exact absurd h h1
  ·rename_i h1;have hy:y = 0 := by simpa using h1
   rcases List.mem_cons.1 hx with rfl | hx
   ·exact hy
   ·exact ih h x hx
theorem open_zero {u:UseFile} {l:List Int} (h:openF u l = 0):∀ x ∈ l,x = 0 := by
 have h0 := (open_num h).2;unfold openF at h;rw [if_neg (by simp [h0])] at h;exact firstF_zero h
theorem dayQ_zero {d:Int} (h:dayQ d = 0):0 <= d /\ d <= 2000 := by
 unfold dayQ at h;split at h
 ·rename_i h1; simpa [isDay,isIn] using h1
 ·cases h
def windowR (u:UseFile) (day:Int):Value := if openF u [dayQ day] ≠ 0 then .tuple #[.agg #[.int .i64 0,.int .i64 0],.int .i64 (openF u [dayQ day])] else .tuple #[.agg #[.int .i64 (window u day).first,.int .i64 day],.int .i64 0]
theorem c17 {h:LH} {f:FileC} {u:UseFile} (hp:Parts h.get) (hu:FileR h.get f u) (day:Int):Gr Tryz.prog 25 #[fileV f u,.int .i64 day] h fun r _ => r = windowR u day := by
 refine w17 _ _ _ _ _ _ _ _ _ _ _ _ _ _ X0_ok ?_;unfold n17;refine t_gr (c54 u day) ?_;rintro v h₁ le1 ⟨q,a⟩;refine gZ ?_;refine asks1 q a fun r h₂ le2 hs => ?_;refine gZ ?_;have le12 := LH.le_trans le1 le2;refine t_call (c53 (f := f) (hp.le le12.1) (hu.le le12.1) hs) ?_;rintro v h₃ ⟨le3,⟨hne,rfl⟩ | ⟨h0,d,m,rfl,hd,hm,k⟩⟩
 ·refine gZ ?_;refine t_cond (fun _ => ?_) (fun e => absurd (by simpa using e) hne);refine t_ret ⟨LH.le_trans le12 le3,?_⟩;show _ = windowR u day;rw [windowR,if_pos hne]
 ·refine gZ ?_;refine t_cond (fun e => by cases e) (fun _ => ?_);have hq := dayQ_zero (open_zero h0 _ (by simp; rfl));refine t_de (c55 k (num_ok (open_num h0).1).2.2.2 day hq) ?_;rintro _ h₄ mv k4 rfl;refine gZ ?_;refine t_ret ⟨LH.le_trans le12 (Mv.le_of le3 hm mv),?_⟩;show _ = windowR u day;rw [windowR,if_neg (by simpa using h0)]
end
section
open Go Go.TM Go.Proofs
set_option linter.unusedVariables false
set_option maxRecDepth 100000
variable {X:XP} {h:LH} {A:Value -> LH -> Prop}
def n15 (u_0 u_1 u_2 u_3:Int) (u_4p:Option Addr) (u_4n u_4c:Nat) (u_5p:Option Addr) (u_5n u_5c:Nat) (u_6p:Option Addr) (u_6n u_6c:Nat):T := .blk (bif decide ((↑u_4n:Int) > 20) then .rn [true] else bif decide ((↑u_5n:Int) > 20) then .rn [true] else bif decide ((↑u_6n:Int) > 20) then .rn [true] else .ag [false]) (fun vs => .popB vs fun b vs => .unNil vs (.loop [b,.int .i64 0] (fun vs => .popB vs fun b vs => .pi vs fun n vs => .unNil vs (bif decide (n < (↑u_5n:Int)) then .need (0 <= n /\ n < (↑u_5n:Int)) (.someA u_5p fun a => .loadS ((a.add (n.toNat * 4)).add 3) fun p n_1 c => bif decide ((↑n_1:Int) > 20) then .rn [true,.int .i64 n] else .ag [b,.int .i64 (wrap .i64 (n + 1))]) else .bk [b,.int .i64 n])) (fun vs => .popB vs fun b vs => .pi vs fun n vs => .unNil vs (.loop [b,.int .i64 0] (fun vs => .popB vs fun b vs => .pi vs fun n vs => .unNil vs (bif decide (n < (↑u_6n:Int)) then .need (0 <= n /\ n < (↑u_6n:Int)) (.someA u_6p fun a => .loadS ((a.add (n.toNat * 3)).add 2) fun p n_1 c => bif decide ((↑n_1:Int) > 20) then .rn [true,.int .i64 n] else .ag [b,.int .i64 (wrap .i64 (n + 1))]) else .bk [b,.int .i64 n])) (fun vs => .popB vs fun b vs => .pi vs fun n vs => .unNil vs (.rt (.bool false))) (fun vs => .popB vs fun b vs => .pi vs fun n vs => .unNil vs (.rt (.bool b))) fun x x_1 => .fail)) (fun vs => .popB vs fun b vs => .pi vs fun n vs => .unNil vs (.rt (.bool b))) fun x x_1 => .fail)) (fun vs => .popB vs fun b vs => .unNil vs (.rt (.bool b))) fun x x_1 => .fail
theorem w15 (u_0 u_1 u_2 u_3:Int) (u_4p:Option Addr) (u_4n u_4c:Nat) (u_5p:Option Addr) (u_5n u_5c:Nat) (u_6p:Option Addr) (u_6n u_6c:Nat):FX X 20 #[.agg #[u_0,.int .i64 u_1,.int .i64 u_2,.int .i64 u_3,.slice u_4p u_4n u_4c,.slice u_5p u_5n u_5c,.slice u_6p u_6n u_6c]] h A (n15 u_0 u_1 u_2 u_3 u_4p u_4n u_4c u_5p u_5n u_5c u_6p u_6n u_6c) := fk [1] [⟨0,[(2,.bool),(3,.int .i64)],[1],[],[],[]⟩,⟨2,[(2,.bool),(4,.int .i64)],[1],[],[],[]⟩] [⟨3,[(2,.bool)],[1],[],[],[]⟩] Tryz.f20
def n25 (ap:Option Addr) (an ac:Nat) (bp:Option Addr) (bn bc:Nat):T := bif (↑an:Int) != (↑bn:Int) then .rt (.bool false) else .loop [false,.int .i64 0] (fun vs => .popB vs fun b vs => .pi vs fun n vs => .unNil vs (bif decide (n < (↑an:Int)) then .need (0 <= n /\ n < (↑an:Int)) (.someA ap fun a => .li (a.add (n.toNat * 1)) fun n_1 => .need (0 <= n /\ n < (↑bn:Int)) (.someA bp fun a => .li (a.add (n.toNat * 1)) fun n_2 => bif n_1 != n_2 then .rn [false,.int .i64 n] else .ag [b,.int .i64 (wrap .i64 (n + 1))])) else .bk [b,.int .i64 n])) (fun vs => .popB vs fun b vs => .pi vs fun n vs => .unNil vs (.rt (.bool true))) (fun vs => .popB vs fun b vs => .pi vs fun n vs => .unNil vs (.rt (.bool b))) fun x x_1 => .fail
theorem w25 (ap:Option Addr) (an ac:Nat) (bp:Option Addr) (bn bc:Nat):FX X 34 #[.slice ap an ac,.slice bp bn bc] h A (n25 ap an ac bp bn bc) := fk [] [⟨0,[(4,.bool),(5,.int .i64)],[],[],[],[]⟩] [] Tryz.f34
def n27 (u_0 u_1 u_2 u_3:Int) (u_4p:Option Addr) (u_4n u_4c:Nat) (u_5p:Option Addr) (u_5n u_5c:Nat) (u_6p:Option Addr) (u_6n u_6c:Nat):T := .blk (.cB 50 #[u_0,.int .i64 0,.int .i64 6] fun b => bif !b then .rn [.int .i64 1] else .cB 50 #[u_1,.int .i64 1,.int .i64 3] fun b => bif !b then .rn [.int .i64 1] else .cB 51 #[u_2] fun b => bif !b then .rn [.int .i64 1] else .cB 50 #[u_3,.int .i64 1,.int .i64 2000] fun b => bif !b then .rn [.int .i64 1] else .ag [.int .i64 0]) (fun vs => .pi vs fun n vs => .unNil vs (.cI 52 #[.slice u_4p u_4n u_4c] fun n => bif n != 0 then .rt (.int .i64 n) else .cI 53 #[.agg #[u_0,.int .i64 u_1,.int .i64 u_2,.int .i64 u_3,.slice u_4p u_4n u_4c,.slice u_5p u_5n u_5c,.slice u_6p u_6n u_6c]] fun n => bif n != 0 then .rt (.int .i64 n) else .cI 54 #[.agg #[u_0,.int .i64 u_1,.int .i64 u_2,.int .i64 u_3,.slice u_4p u_4n u_4c,.slice u_5p u_5n u_5c,.slice u_6p u_6n u_6c]] fun n => .rt (.int .i64 n))) (fun vs => .pi vs fun n vs => .unNil vs (.rt (.int .i64 n))) fun x x_1 => .fail
theorem w27 (u_0 u_1 u_2 u_3:Int) (u_4p:Option Addr) (u_4n u_4c:Nat) (u_5p:Option Addr) (u_5n u_5c:Nat) (u_6p:Option Addr) (u_6n u_6c:Nat):FX X 21 #[.agg #[u_0,.int .i64 u_1,.int .i64 u_2,.int .i64 u_3,.slice u_4p u_4n u_4c,.slice u_5p u_5n u_5c,.slice u_6p u_6n u_6c]] h A (n27 u_0 u_1 u_2 u_3 u_4p u_4n u_4c u_5p u_5n u_5c u_6p u_6n u_6c) := fk [1] [] [⟨3,[(2,.int .i64)],[1],[],[],[]⟩] Tryz.f21
def n30 (ap:Option Addr) (an ac:Nat) (bp:Option Addr) (bn bc:Nat):T := bif (↑an:Int) != (↑bn:Int) then .rt (.bool false) else .loop [false,.int .i64 0] (fun vs => .popB vs fun b vs => .pi vs fun n vs => .unNil vs (bif decide (n < (↑an:Int)) then .need (0 <= n /\ n < (↑an:Int)) (.someA ap fun a => .li ((a.add (n.toNat * 4)).add 0) fun n_1 => .li ((a.add (n.toNat * 4)).add 1) fun n_2 => .li ((a.add (n.toNat * 4)).add 2) fun n_3 => .li ((a.add (n.toNat * 4)).add 3) fun n_4 => .need (0 <= n /\ n < (↑bn:Int)) (.someA bp fun a_1 => .li ((a_1.add (n.toNat * 4)).add 0) fun n_5 => .li ((a_1.add (n.toNat * 4)).add 1) fun n_6 => .li ((a_1.add (n.toNat * 4)).add 2) fun n_7 => .li ((a_1.add (n.toNat * 4)).add 3) fun n_8 => .sem false (Sem.bind (eqGuard BinOp.neq 91 (Operand.tmp 20) (Operand.tmp 24) (.agg #[n_1,.int .i64 n_2,.int .i64 n_3,.int .i64 n_4]) (.agg #[n_5,.int .i64 n_6,.int .i64 n_7,.int .i64 n_8])) fun __r => binOp BinOp.neq 91 (.agg #[n_1,.int .i64 n_2,.int .i64 n_3,.int .i64 n_4]) (.agg #[n_5,.int .i64 n_6,.int .i64 n_7,.int .i64 n_8])) fun v => .unB v fun b_1 => .need (0 <= n /\ n < (↑bn:Int)) (.someA bp fun a_2 => .ne (.pointer (some (a_2.add (n.toNat * 4)))) (.pointer (some (a_1.add (n.toNat * 4)))) (.nd n (.nS bp bn bc (.need (0 <= n /\ n < (↑an:Int)) (.someA ap fun a_3 => .ne (.pointer (some (a_3.add (n.toNat * 4)))) (.pointer (some (a.add (n.toNat * 4)))) (.nd n (.nS ap an ac (bif b_1 then .rn [false,.int .i64 n] else .ag [b,.int .i64 (wrap .i64 (n + 1))])))))))))) else .bk [b,.int .i64 n])) (fun vs => .popB vs fun b vs => .pi vs fun n vs => .unNil vs (.rt (.bool true))) (fun vs => .popB vs fun b vs => .pi vs fun n vs => .unNil vs (.rt (.bool b))) fun x x_1 => .fail
theorem w30 (ap:Option Addr) (an ac:Nat) (bp:Option Addr) (bn bc:Nat):FX X 35 #[.slice ap an ac,.slice bp bn bc] h A (n30 ap an ac bp bn bc) := fk [] [⟨0,[(4,.bool),(5,.int .i64)],[],[],[],[]⟩] [] Tryz.f35
def n36 (u_0 u_1 u_2 u_3:Int) (u_4p:Option Addr) (u_4n u_4c:Nat) (u_5p:Option Addr) (u_5n u_5c:Nat) (u_6p:Option Addr) (u_6n u_6c:Nat):T := .cB 20 #[.agg #[u_0,.int .i64 u_1,.int .i64 u_2,.int .i64 u_3,.slice u_4p u_4n u_4c,.slice u_5p u_5n u_5c,.slice u_6p u_6n u_6c]] fun b => bif !b then .cI 21 #[.agg #[u_0,.int .i64 u_1,.int .i64 u_2,.int .i64 u_3,.slice u_4p u_4n u_4c,.slice u_5p u_5n u_5c,.slice u_6p u_6n u_6c]] fun n => .rt (.bool (n == 0)) else .rt (.bool false)
theorem w36 (u_0 u_1 u_2 u_3:Int) (u_4p:Option Addr) (u_4n u_4c:Nat) (u_5p:Option Addr) (u_5n u_5c:Nat) (u_6p:Option Addr) (u_6n u_6c:Nat):FX X 6 #[.agg #[u_0,.int .i64 u_1,.int .i64 u_2,.int .i64 u_3,.slice u_4p u_4n u_4c,.slice u_5p u_5n u_5c,.slice u_6p u_6n u_6c]] h A (n36 u_0 u_1 u_2 u_3 u_4p u_4n u_4c u_5p u_5n u_5c u_6p u_6n u_6c) := fk [1] [] [] Tryz.f6
def n37 (n:Int):T := .need ((2001:Int) ≠ 0) (.rt (.int .i64 (Int.tmod (wrap .i64 n) 2001)))
theorem w37 (n:Int):FX X 9 #[.int .u16 n] h A (n37 n) := fk [] [] [] Tryz.f9
def n42 (a b:Int):T := .rt (.agg #[a,.int .i64 b])
theorem w42 (a b:Int):FX X 32 #[a,.int .i64 b] h A (n42 a b) := fk [4] [] [] Tryz.f32
def n52  : T := .cl 32 #[.int .i64 21,.int .i64 23] fun v => .unAgg v fun l => .pi l fun n vs => .pi vs fun n_1 vs => .unNil vs (.sem false (Instr.buildSlice 22 1 #[(0,.agg #[n,.int .i64 n_1])]) fun v => .unS v fun a n c => .cl 32 #[.int .i64 12,.int .i64 14] fun v => .unAgg v fun l => .pi l fun n_2 vs => .pi vs fun n_3 vs => .unNil vs (.sem false (Instr.buildSlice 30 2 #[(0,.int .i64 0),(1,.int .i64 1)]) fun v => .unS v fun a_1 n_4 c_1 => .cl 32 #[.int .i64 19,.int .i64 19] fun v => .unAgg v fun l => .pi l fun n_5 vs => .pi vs fun n_6 vs => .unNil vs (.sem false (Instr.buildSlice 30 1 #[(0,.int .i64 0)]) fun v => .unS v fun a_2 n_7 c_2 => .cl 32 #[.int .i64 17,.int .i64 26] fun v => .unAgg v fun l => .pi l fun n_8 vs => .pi vs fun n_9 vs => .unNil vs (.sem false (Instr.buildSlice 30 1 #[(0,.int .i64 2)]) fun v => .unS v fun a_3 n_10 c_3 => .cl 32 #[.int .i64 18,.int .i64 18] fun v => .unAgg v fun l => .pi l fun n_11 vs => .pi vs fun n_12 vs => .unNil vs (.sem false (Instr.buildSlice 30 2 #[(0,.int .i64 0),(1,.int .i64 1)]) fun v => .unS v fun a_4 n_13 c_4 => .sem false (Instr.buildSlice 23 4 #[(0,.agg #[n_2,.int .i64 n_3,.int .i64 0,.slice a_1 n_4 c_1]),(1,.agg #[n_5,.int .i64 n_6,.int .i64 0,.slice a_2 n_7 c_2]),(2,.agg #[n_8,.int .i64 n_9,.int .i64 0,.slice a_3 n_10 c_3]),(3,.agg #[n_11,.int .i64 n_12,.int .i64 1,.slice a_4 n_13 c_4])]) fun v => .unS v fun a_5 n_14 c_5 => .sem false (Instr.buildSlice 30 3 #[(0,.int .i64 0),(1,.int .i64 1),(2,.int .i64 2)]) fun v => .unS v fun a_6 n_15 c_6 => .sem false (Instr.buildSlice 30 2 #[(0,.int .i64 0),(1,.int .i64 2)]) fun v => .unS v fun a_7 n_16 c_7 => .sem false (Instr.buildSlice 24 2 #[(0,.agg #[.int .i64 20,.int .i64 0,.slice a_6 n_15 c_6]),(1,.agg #[.int .i64 25,.int .i64 0,.slice a_7 n_16 c_7])]) fun v => .unS v fun a_8 n_17 c_8 => .rt (.agg #[.int .i64 3,.int .i64 2,.int .i64 10,.int .i64 5,.slice a n c,.slice a_5 n_14 c_5,.slice a_8 n_17 c_8]))))))
theorem w52  : FX X 24 #[] h A (n52) := fk [0] [] [] Tryz.f24
def n56 (n:Int):T := .cB 50 #[n,.int .i64 0,.int .i64 2000] fun b => .rt (.bool b)
theorem w56 (n:Int):FX X 51 #[n] h A (n56 n) := fk [] [] [] Tryz.f51
def n66 (lp:Option Addr) (ln lc:Nat):T := bif decide ((↑ln:Int) > 4) then .rt (.int .i64 2) else .loop [.int .i64 0,.int .i64 0] (fun vs => .pi vs fun n vs => .pi vs fun n_1 vs => .unNil vs (bif decide (n_1 < (↑ln:Int)) then .need (0 <= n_1 /\ n_1 < (↑ln:Int)) (.someA lp fun a => .li ((a.add (n_1.toNat * 2)).add 0) fun n_2 => .li ((a.add (n_1.toNat * 2)).add 1) fun n_3 => .cB 93 #[.agg #[n_2,.int .i64 n_3],.int .i64 0,.int .i64 2000] fun b => bif !b then .rn [.int .i64 1,.int .i64 n_1] else .ag [n,.int .i64 (wrap .i64 (n_1 + 1))]) else .bk [n,.int .i64 n_1])) (fun vs => .pi vs fun n vs => .pi vs fun n vs => .unNil vs (.rt (.int .i64 0))) (fun vs => .pi vs fun n vs => .pi vs fun n_1 vs => .unNil vs (.rt (.int .i64 n))) fun x x_1 => .fail
theorem w66 (lp:Option Addr) (ln lc:Nat):FX X 52 #[.slice lp ln lc] h A (n66 lp ln lc) := fk [] [⟨0,[(2,.int .i64),(3,.int .i64)],[],[],[],[]⟩] [] Tryz.f52
def n67 (u_0 u_1 u_2 u_3:Int) (u_4p:Option Addr) (u_4n u_4c:Nat) (u_5p:Option Addr) (u_5n u_5c:Nat) (u_6p:Option Addr) (u_6n u_6c:Nat):T := bif decide ((↑u_5n:Int) > 8) then .rt (.int .i64 2) else .loop [.int .i64 0,.int .i64 0] (fun vs => .pi vs fun n vs => .pi vs fun n_1 vs => .unNil vs (bif decide (n_1 < (↑u_5n:Int)) then .need (0 <= n_1 /\ n_1 < (↑u_5n:Int)) (.someA u_5p fun a => .li ((a.add (n_1.toNat * 4)).add 0) fun n_2 => .li ((a.add (n_1.toNat * 4)).add 1) fun n_3 => .li ((a.add (n_1.toNat * 4)).add 2) fun n_4 => .loadS ((a.add (n_1.toNat * 4)).add 3) fun p n_5 c => .cB 93 #[.agg #[n_2,.int .i64 n_3],.int .i64 0,.int .i64 2000] fun b => bif !b then .rn [.int .i64 1,.int .i64 n_1] else .cB 50 #[n_4,.int .i64 0,.int .i64 (wrap .i64 (u_1 - 1))] fun b => bif !b then .rn [.int .i64 6,.int .i64 n_1] else .cI 94 #[.slice p n_5 c,.int .i64 u_0] fun n_6 => bif n_6 != 0 then .rn [n_6,.int .i64 n_1] else .ag [n,.int .i64 (wrap .i64 (n_1 + 1))]) else .bk [n,.int .i64 n_1])) (fun vs => .pi vs fun n vs => .pi vs fun n vs => .unNil vs (.rt (.int .i64 0))) (fun vs => .pi vs fun n vs => .pi vs fun n_1 vs => .unNil vs (.rt (.int .i64 n))) fun x x_1 => .fail
theorem w67 (u_0 u_1 u_2 u_3:Int) (u_4p:Option Addr) (u_4n u_4c:Nat) (u_5p:Option Addr) (u_5n u_5c:Nat) (u_6p:Option Addr) (u_6n u_6c:Nat):FX X 53 #[.agg #[u_0,.int .i64 u_1,.int .i64 u_2,.int .i64 u_3,.slice u_4p u_4n u_4c,.slice u_5p u_5n u_5c,.slice u_6p u_6n u_6c]] h A (n67 u_0 u_1 u_2 u_3 u_4p u_4n u_4c u_5p u_5n u_5c u_6p u_6n u_6c) := fk [1,4] [⟨0,[(2,.int .i64),(3,.int .i64)],[1],[],[],[]⟩] [] Tryz.f53
def n68 (u_0 u_1 u_2 u_3:Int) (u_4p:Option Addr) (u_4n u_4c:Nat) (u_5p:Option Addr) (u_5n u_5c:Nat) (u_6p:Option Addr) (u_6n u_6c:Nat):T := bif decide ((↑u_6n:Int) > 4) then .rt (.int .i64 2) else .loop [.int .i64 0,.int .i64 0] (fun vs => .pi vs fun n vs => .pi vs fun n_1 vs => .unNil vs (bif decide (n_1 < (↑u_6n:Int)) then .need (0 <= n_1 /\ n_1 < (↑u_6n:Int)) (.someA u_6p fun a => .li ((a.add (n_1.toNat * 3)).add 0) fun n_2 => .li ((a.add (n_1.toNat * 3)).add 1) fun n_3 => .loadS ((a.add (n_1.toNat * 3)).add 2) fun p n_4 c => .cB 51 #[n_2] fun b => bif !b then .rn [.int .i64 1,.int .i64 n_1] else .blk (bif decide (n_2 < u_2) then .nb (decide (n_2 < u_2)) (.nd u_2 (.np 1 2 (.nd n_2 (.np 4 0 (.nU (.nU (.nU (.nU (.nb (decide (n_2 < u_2)) (.nd u_2 (.np 1 2 (.nd n_2 (.np 4 0 (.nU (.nU (.nU (.nU (.nU (.nb (decide (n_2 < u_2)) (.nd u_2 (.np 1 2 (.nd n_2 (.np 4 0 (.rn [.int .i64 7])))))))))))))))))))))))) else bif decide (n_1 > 0) then .need (0 <= wrap .i64 (n_1 - 1) /\ wrap .i64 (n_1 - 1) < (↑u_6n:Int)) (.someA u_6p fun a => .li ((a.add ((wrap .i64 (n_1 - 1)).toNat * 3)).add 0) fun n_5 => bif decide (n_2 < n_5) then .rn [.int .i64 7] else .ag [n]) else .nU (.nU (.nU (.nU (.nb (decide (n_1 > 0)) (.nd n_1 (.nf (decide (n_2 < u_2)) false (.nb (decide (n_2 < u_2)) (.nd u_2 (.np 1 2 (.nd n_2 (.np 4 0 (.nU (.nU (.nU (.nU (.nU (.nb (decide (n_1 > 0)) (.nd n_1 (.nf (decide (n_2 < u_2)) false (.nb (decide (n_2 < u_2)) (.nd u_2 (.np 1 2 (.nd n_2 (.np 4 0 (.ag [n])))))))))))))))))))))))))) (fun vs => .pi vs fun n vs => .unNil vs (.cB 50 #[n_3,.int .i64 0,.int .i64 (wrap .i64 (u_1 - 1))] fun b => bif !b then .rn [.int .i64 6,.int .i64 n_1] else .cI 94 #[.slice p n_4 c,.int .i64 u_0] fun n_5 => bif n_5 != 0 then .rn [n_5,.int .i64 n_1] else .ag [n,.int .i64 (wrap .i64 (n_1 + 1))])) (fun vs => .pi vs fun n vs => .unNil vs (.rn [n,.int .i64 n_1])) fun x x_1 => .fail) else .bk [n,.int .i64 n_1])) (fun vs => .pi vs fun n vs => .pi vs fun n vs => .unNil vs (.rt (.int .i64 0))) (fun vs => .pi vs fun n vs => .pi vs fun n_1 vs => .unNil vs (.rt (.int .i64 n))) fun x x_1 => .fail
theorem w68 (u_0 u_1 u_2 u_3:Int) (u_4p:Option Addr) (u_4n u_4c:Nat) (u_5p:Option Addr) (u_5n u_5c:Nat) (u_6p:Option Addr) (u_6n u_6c:Nat):FX X 54 #[.agg #[u_0,.int .i64 u_1,.int .i64 u_2,.int .i64 u_3,.slice u_4p u_4n u_4c,.slice u_5p u_5n u_5c,.slice u_6p u_6n u_6c]] h A (n68 u_0 u_1 u_2 u_3 u_4p u_4n u_4c u_5p u_5n u_5c u_6p u_6n u_6c) := fk [1,4] [⟨0,[(2,.int .i64),(3,.int .i64)],[1],[],[],[]⟩] [⟨11,[(2,.int .i64)],[1,4],[],[],[]⟩] Tryz.f54
def n72 (lp:Option Addr) (ln lc:Nat) (below:Int):T := .loop [.int .i64 0,.int .i64 0] (fun vs => .pi vs fun n vs => .pi vs fun n_1 vs => .unNil vs (bif decide (n_1 < (↑ln:Int)) then .need (0 <= n_1 /\ n_1 < (↑ln:Int)) (.someA lp fun a => .li (a.add (n_1.toNat * 1)) fun n_2 => .cB 50 #[n_2,.int .i64 0,.int .i64 (wrap .i64 (below - 1))] fun b => bif !b then .rn [.int .i64 6,.int .i64 n_1] else bif decide (n_1 > 0) then .need (0 <= n_1 /\ n_1 < (↑ln:Int)) (.someA lp fun a => .li (a.add (n_1.toNat * 1)) fun n_3 => .need (0 <= wrap .i64 (n_1 - 1) /\ wrap .i64 (n_1 - 1) < (↑ln:Int)) (.someA lp fun a => .li (a.add ((wrap .i64 (n_1 - 1)).toNat * 1)) fun n_4 => bif decide (n_3 <= n_4) then .rn [.int .i64 7,.int .i64 n_1] else .ag [n,.int .i64 (wrap .i64 (n_1 + 1))])) else .nU (.nU (.nU (.nU (.nU (.nb (decide (n_1 > 0)) (.nd n_1 (.nU (.nU (.nU (.nU (.nU (.nb (decide (n_1 > 0)) (.nd n_1 (.ag [n,.int .i64 (wrap .i64 (n_1 + 1))]))))))))))))))) else .bk [n,.int .i64 n_1])) (fun vs => .pi vs fun n vs => .pi vs fun n vs => .unNil vs (.rt (.int .i64 0))) (fun vs => .pi vs fun n vs => .pi vs fun n_1 vs => .unNil vs (.rt (.int .i64 n))) fun x x_1 => .fail
theorem w72 (lp:Option Addr) (ln lc:Nat) (below:Int):FX X 94 #[.slice lp ln lc,.int .i64 below] h A (n72 lp ln lc below) := fk [] [⟨0,[(4,.int .i64),(5,.int .i64)],[],[],[],[]⟩] [] Tryz.f94
def n93 (x_0 x_1 first last:Int):T := bif decide (first <= x_0) then bif decide (x_0 <= x_1) then .rt (.bool (decide (x_1 <= last))) else .rt (.bool false) else .rt (.bool false)
theorem w93 (x_0 x_1 first last:Int):FX X 93 #[.agg #[x_0,.int .i64 x_1],.int .i64 first,.int .i64 last] h A (n93 x_0 x_1 first last) := fk [3] [] [] Tryz.f93
end
section
open Go Go.TM Go.Proofs
attribute [local irreducible] T.wp CV FWK
theorem c49 {h:LH} (n a b:Int):Pu Tryz.prog 50 #[.int .i64 n,.int .i64 a,.int .i64 b] h (.bool (isIn n a b)) := by
 refine w49 _ _ _ X0_ok ?_;unfold n49;refine t_if (fun e => ?_) (fun e => ?_) <;> refine t_ret ⟨?_,rfl⟩ <;> simp [isIn,e]
theorem c56 {h:LH} (n:Int):Pu Tryz.prog 51 #[.int .i64 n] h (.bool (isDay n)) := by
 refine w56 _ X0_ok ?_;unfold n56;refine t_pu (c49 _ _ _) ?_;refine gZ ?_;exact t_ret ⟨rfl,rfl⟩
theorem c93 {h:LH} (a b x y:Int):Pu Tryz.prog 93 #[.agg #[.int .i64 a,.int .i64 b],.int .i64 x,.int .i64 y] h (.bool (decide (x <= a) && (decide (a <= b) && decide (b <= y)))) := by
 refine w93 _ _ _ _ X0_ok ?_;unfold n93;refine t_if (fun e => ?_) (fun e => ?_)
 ·refine t_if (fun e' => ?_) (fun e' => ?_) <;> refine t_ret ⟨?_,rfl⟩ <;> simp [e,e']
 ·refine t_ret ⟨?_,rfl⟩; simp [e]
theorem inside_span (x:Span):(decide ((0:Int) <= x.first) && (decide (x.first <= x.last) && decide (x.last <= 2000))) = isSpan x := by
 unfold isSpan isDay isIn;rw [Bool.eq_iff_iff];simp only [Bool.and_eq_true,decide_eq_true_eq];omega
theorem c72 {h:LH} {below:Int} {p:Option Addr} {n c:Nat} {l:List Int} (hl:Sl IntE 1 h.get p n l) (hb:IsI (below - 1)):Pu Tryz.prog 94 #[.slice p n c,.int .i64 below] h (.int .i64 (risesF l below)) := by
 refine w72 _ _ _ _ X0_ok ?_;unfold n72;have hn := hl.1;have hbn := hl.2.1;have hw:wrap .i64 (below - 1) = below - 1 := wrap_id hb.1 hb.2;refine t_loop (fun mm vs h' => h = h' /\ ∃ i:Nat,vs = [.int .i64 0,.int .i64 i] /\ i <= n /\ mm = n - i /\ risesF l below = firstF (riseF l below) i (l.drop i)) ⟨rfl,0,rfl,Nat.zero_le _,rfl,rfl⟩ ?_;rintro Y mm vs _ hY ⟨rfl,i,rfl,hi,rfl,hc⟩;refine gZ ?_;refine t_if (fun e => ?_) (fun e => ?_)
 ·obtain ⟨x,a,hx,ha,e1⟩ := hl.at (i := i) (by omega);unfold IntE at e1;rw [drop_of hx,firstF] at hc;refine gZ ?_;refine t_pu (c49 _ _ _) ?_;refine gZ ?_;rw [hw];have next:riseF l below i x = 0 -> Y [.int .i64 0,.int .i64 (wrap .i64 ((i:Int) + 1))] h := by
   intro hz;rw [if_neg (by simp [hz])] at hc;refine hY (n - (i + 1)) _ _ (by omega) ⟨rfl,i + 1,?_,by omega,rfl,hc⟩;rw [wrap_id (by omega) (by omega)]; rfl
  have stop:∀ z:Int,z ≠ 0 -> riseF l below i x = z -> risesF l below = z := by
   intro z hz hr;rw [if_pos (by rw [hr]; exact hz),hr] at hc; exact hc
  refine t_cond (fun b => ?_) (fun b => ?_)
  ·refine gZ ?_;have b':isIn x 0 (below - 1) = false := by simpa using b
   exact t_ret ⟨by rw [stop 6 (by omega) (by rw [riseF,if_pos b'])],rfl⟩
  ·have b':¬ isIn x 0 (below - 1) = false := by simp at b; simp [b]
   refine t_if (fun e2 => ?_) (fun e2 => ?_)
   ·obtain ⟨y,a2,hy,ha2,e3⟩ := hl.at (i := i - 1) (by omega);unfold IntE at e3;rw [ha] at ha2; cases ha2;have hwi:wrap .i64 ((i:Int) - 1) = ((i - 1:Nat):Int) := by rw [wrap_id (by omega) (by omega)]; omega
    have hg:l.getD (i - 1) 0 = y := by simp [List.getD,hy]
    rw [hwi];refine gZ ?_;refine t_if (fun e4 => ?_) (fun e4 => ?_)
    ·refine gZ ?_;exact t_ret ⟨by rw [stop 7 (by omega) (by rw [riseF,if_neg b',if_pos ⟨by omega,by rw [hg]; exact e4⟩])],rfl⟩
    ·exact t_again (next (by rw [riseF,if_neg b',if_neg (by rw [hg]; omega)]))
   ·refine gZ ?_;exact t_again (next (by rw [riseF,if_neg b',if_neg (by omega)]))
 ·refine gZ ?_;rw [List.drop_eq_nil_of_le (by omega)] at hc;exact t_ret ⟨by rw [hc]; rfl,rfl⟩
theorem c66 {h:LH} {p:Option Addr} {n c:Nat} {l:List Span} (hl:Sl SpanE 2 h.get p n l):Pu Tryz.prog 52 #[.slice p n c] h (.int .i64 (eachF 4 (fun _ x => if isSpan x then 0 else 1) l)) := by
 refine w66 _ _ _ X0_ok ?_;unfold n66;have hn := hl.1;have hbn := hl.2.1;refine t_if (fun e => ?_) (fun e => ?_)
 ·exact t_ret ⟨by rw [eachF,if_pos (by omega)],rfl⟩
 have he:eachF 4 (fun _ x => if isSpan x then 0 else 1) l = firstF (fun _ x => if isSpan x then 0 else 1) 0 l := by rw [eachF,if_neg (by omega)]
 refine t_loop (fun mm vs h' => h = h' /\ ∃ i:Nat,vs = [.int .i64 0,.int .i64 i] /\ i <= n /\ mm = n - i /\ eachF 4 (fun _ x => if isSpan x then 0 else 1) l = firstF (fun _ x => if isSpan x then 0 else 1) i (l.drop i)) ⟨rfl,0,rfl,Nat.zero_le _,rfl,he⟩ ?_;rintro Y mm vs _ hY ⟨rfl,i,rfl,hi,rfl,hc⟩;refine gZ ?_;refine t_if (fun e => ?_) (fun e => ?_)
 ·obtain ⟨x,a,hx,ha,e1,e2⟩ := hl.at (i := i) (by omega);rw [drop_of hx,firstF] at hc;refine gZ ?_;refine t_pu (c93 _ _ _ _) ?_;rw [inside_span];refine gZ ?_;refine t_cond (fun b => ?_) (fun b => ?_)
  ·refine gZ ?_;have b':isSpan x = false := by simpa using b
   rw [b'] at hc;exact t_ret ⟨by rw [hc]; rfl,rfl⟩
  ·have b':isSpan x = true := by simpa using b
   rw [b'] at hc;refine t_again (hY (n - (i + 1)) _ _ (by omega) ⟨rfl,i + 1,?_,by omega,rfl,by simpa using hc⟩);rw [wrap_id (by omega) (by omega)]; rfl
 ·refine gZ ?_;rw [List.drop_eq_nil_of_le (by omega)] at hc;exact t_ret ⟨by rw [hc]; rfl,rfl⟩
theorem c67 {h:LH} {f:FileC} {u:UseFile} (hu:FileR h.get f u) (hnum:numbersF u = 0):Pu Tryz.prog 53 #[fileV f u] h (.int .i64 (papersF u)) := by
 refine w67 _ _ _ _ _ _ _ _ _ _ _ _ _ X0_ok ?_;unfold n67;have hp := hu.papers;have hn := hp.1;have hbn := hp.2.1;have hw:wrap .i64 (u.lands - 1) = u.lands - 1 := wrap_id (num_lands hnum).1 (num_lands hnum).2;refine t_if (fun e => ?_) (fun e => ?_)
 ·exact t_ret ⟨by rw [papersF,eachF,if_pos (by omega)],rfl⟩
 have he:papersF u = firstF (fun _ p => paperF u p) 0 u.papers := by rw [papersF,eachF,if_neg (by omega)]
 refine t_loop (fun mm vs h' => h = h' /\ ∃ i:Nat,vs = [.int .i64 0,.int .i64 i] /\ i <= f.n5 /\ mm = f.n5 - i /\ papersF u = firstF (fun _ p => paperF u p) i (u.papers.drop i)) ⟨rfl,0,rfl,Nat.zero_le _,rfl,he⟩ ?_;rintro Y mm vs _ hY ⟨rfl,i,rfl,hi,rfl,hc⟩;refine gZ ?_;refine t_if (fun e => ?_) (fun e => ?_)
 ·obtain ⟨x,a,hx,ha,e1,e2,e3,q,m,c,e4,e5⟩ := hp.at (i := i) (by omega);rw [drop_of hx,firstF] at hc;refine gZ ?_;have next:paperF u x = 0 -> Y [.int .i64 0,.int .i64 (wrap .i64 ((i:Int) + 1))] h := by
   intro hz;rw [if_neg (by simp [hz])] at hc;refine hY (f.n5 - (i + 1)) _ _ (by omega) ⟨rfl,i + 1,?_,by omega,rfl,hc⟩;rw [wrap_id (by omega) (by omega)]; rfl
  have stop:∀ z:Int,z ≠ 0 -> paperF u x = z -> papersF u = z := by
   intro z hz hr;rw [if_pos (by rw [hr]; exact hz),hr] at hc; exact hc
  refine t_pu (c93 _ _ _ _) ?_;rw [inside_span x.days];refine gZ ?_;refine t_cond (fun b => ?_) (fun b => ?_)
  ·refine gZ ?_;have b':isSpan x.days = false := by simpa using b
   exact t_ret ⟨by rw [stop 1 (by omega) (by rw [paperF,if_pos b'])],rfl⟩
  have b1:¬ isSpan x.days = false := by simp at b; simp [b]
  refine t_pu (c49 _ _ _) ?_;rw [hw];refine gZ ?_;refine t_cond (fun b => ?_) (fun b => ?_)
  ·refine gZ ?_;have b':isIn x.land 0 (u.lands - 1) = false := by simpa using b
   exact t_ret ⟨by rw [stop 6 (by omega) (by rw [paperF,if_neg b1,if_pos b'])],rfl⟩
  have b2:¬ isIn x.land 0 (u.lands - 1) = false := by simp at b; simp [b]
  refine t_pu (c72 e5 (num_items hnum)) ?_;refine gZ ?_;have hr:paperF u x = risesF x.items u.items := by rw [paperF,if_neg b1,if_neg b2]
  refine t_cond (fun b => ?_) (fun b => ?_)
  ·refine gZ ?_;exact t_ret ⟨by rw [stop _ (by simpa using b) hr],rfl⟩
  ·exact t_again (next (by rw [hr]; simpa using b))
 ·refine gZ ?_;rw [List.drop_eq_nil_of_le (by omega)] at hc;exact t_ret ⟨by rw [hc]; rfl,rfl⟩
def lateB (u:UseFile) (i:Nat) (x:Request):Bool := decide (x.day < u.from_) || (decide (0 < i) && (match u.requests[i - 1]? with | some q => decide (x.day < q.day) | none => false))
theorem requestF_eq (u:UseFile) (i:Nat) (x:Request):requestF u i x = if isDay x.day = false then 1 else if lateB u i x = true then 7 else if isIn x.land 0 (u.lands - 1) = false then 6 else risesF x.items u.items := rfl
theorem lateB_prev {u:UseFile} {i:Nat} {x y:Request} (hy:u.requests[i - 1]? = some y):lateB u i x = (decide (x.day < u.from_) || (decide (0 < i) && decide (x.day < y.day))) := by
 unfold lateB; rw [hy]
theorem c68 {h:LH} {f:FileC} {u:UseFile} (hu:FileR h.get f u) (hnum:numbersF u = 0):Pu Tryz.prog 54 #[fileV f u] h (.int .i64 (requestsF u)) := by
 refine w68 _ _ _ _ _ _ _ _ _ _ _ _ _ X0_ok ?_;unfold n68;have hp := hu.requests;have hn := hp.1;have hbn := hp.2.1;have hw:wrap .i64 (u.lands - 1) = u.lands - 1 := wrap_id (num_lands hnum).1 (num_lands hnum).2;refine t_if (fun e => ?_) (fun e => ?_)
 ·exact t_ret ⟨by rw [requestsF,eachF,if_pos (by omega)],rfl⟩
 have he:requestsF u = firstF (requestF u) 0 u.requests := by rw [requestsF,eachF,if_neg (by omega)]
 refine t_loop (fun mm vs h' => h = h' /\ ∃ i:Nat,vs = [.int .i64 0,.int .i64 i] /\ i <= f.n6 /\ mm = f.n6 - i /\ requestsF u = firstF (requestF u) i (u.requests.drop i)) ⟨rfl,0,rfl,Nat.zero_le _,rfl,he⟩ ?_;rintro Y mm vs _ hY ⟨rfl,i,rfl,hi,rfl,hc⟩;refine gZ ?_;refine t_if (fun e => ?_) (fun e => ?_)
 ·obtain ⟨x,a,hx,ha,e1,e2,q,m,c,e4,e5⟩ := hp.at (i := i) (by omega);rw [drop_of hx,firstF] at hc;refine gZ ?_;have next:requestF u i x = 0 -> Y [.int .i64 0,.int .i64 (wrap .i64 ((i:Int) + 1))] h := by
   intro hz;rw [if_neg (by simp [hz])] at hc;refine hY (f.n6 - (i + 1)) _ _ (by omega) ⟨rfl,i + 1,?_,by omega,rfl,hc⟩;rw [wrap_id (by omega) (by omega)]; rfl
  have stop:∀ z:Int,z ≠ 0 -> requestF u i x = z -> requestsF u = z := by
   intro z hz hr;rw [if_pos (by rw [hr]; exact hz),hr] at hc; exact hc
  refine t_pu (c56 _) ?_;refine gZ ?_;refine t_cond (fun b => ?_) (fun b => ?_)
  ·refine gZ ?_;have b':isDay x.day = false := by simpa using b
   exact t_ret ⟨by rw [stop 1 (by omega) (by rw [requestF_eq,if_pos b'])],rfl⟩
  have b1:¬ isDay x.day = false := by simp at b; simp [b]
  refine t_blk (fun vs h' => vs = [.int .i64 0] /\ h = h' /\ lateB u i x = false) ?_ ?_
  ·refine t_if (fun e3 => ?_) (fun e3 => ?_)
   ·refine gZ ?_;exact t_ret ⟨by rw [stop 7 (by omega) (by rw [requestF_eq,if_neg b1,if_pos (by simp [lateB,e3])])],rfl⟩
   ·refine t_if (fun e6 => ?_) (fun e6 => ?_)
    ·obtain ⟨y,a2,hy,ha2,f1,f2,_⟩ := hp.at (i := i - 1) (by omega);have hwi:wrap .i64 ((i:Int) - 1) = ((i - 1:Nat):Int) := by rw [wrap_id (by omega) (by omega)]; omega
     rw [hwi];refine gZ ?_;refine t_if (fun e7 => ?_) (fun e7 => ?_)
     ·refine gZ ?_;exact t_ret ⟨by rw [stop 7 (by omega) (by rw [requestF_eq,if_neg b1,if_pos (by rw [lateB_prev hy]; simp [e7]; omega)])],rfl⟩
     ·refine t_again ⟨rfl,rfl,?_⟩;rw [lateB_prev hy]; simp; omega
    ·have e3':decide (x.day < u.from_) = false := by simpa using e3
     have e3'':AV.val (.bool (decide (x.day < u.from_))) = AV.val (.bool false) := by rw [e3']
     refine gZ ?_;refine t_again ⟨rfl,rfl,?_⟩;have hi0:i = 0 := by omega
     subst hi0;unfold lateB; rw [e3']; rfl
  rintro vs _ ⟨rfl,rfl,hq⟩;refine gZ ?_;refine t_pu (c49 _ _ _) ?_;rw [hw];refine gZ ?_;refine t_cond (fun b => ?_) (fun b => ?_)
  ·refine gZ ?_;have b':isIn x.land 0 (u.lands - 1) = false := by simpa using b
   exact t_ret ⟨by rw [stop 6 (by omega) (by rw [requestF_eq,if_neg b1,hq,if_neg (by simp),if_pos b'])],rfl⟩
  have b2:¬ isIn x.land 0 (u.lands - 1) = false := by simp at b; simp [b]
  refine t_pu (c72 e5 (num_items hnum)) ?_;refine gZ ?_;have hr:requestF u i x = risesF x.items u.items := by rw [requestF_eq,if_neg b1,hq,if_neg (by simp),if_neg b2]
  refine t_cond (fun b => ?_) (fun b => ?_)
  ·refine gZ ?_;exact t_ret ⟨by rw [stop _ (by simpa using b) hr],rfl⟩
  ·exact t_again (next (by rw [hr]; simpa using b))
 ·refine gZ ?_;rw [List.drop_eq_nil_of_le (by omega)] at hc;exact t_ret ⟨by rw [hc]; rfl,rfl⟩
theorem c27 {h:LH} {f:FileC} {u:UseFile} (hu:FileR h.get f u):Pu Tryz.prog 21 #[fileV f u] h (.int .i64 (checkF u)) := by
 refine w27 _ _ _ _ _ _ _ _ _ _ _ _ _ X0_ok ?_;unfold n27;have bad:numbersF u ≠ 0 -> checkF u = 1 := by
  intro hz;have:numbersF u = 1 := by unfold numbersF at hz ⊢; split at hz <;> simp_all
  unfold checkF firstF;rw [if_pos hz,this]
 refine t_blk (fun vs h' => vs = [.int .i64 0] /\ h = h' /\ numbersF u = 0) ?_ ?_
 ·refine t_pu (c49 _ _ _) ?_;refine gZ ?_;refine t_cond (fun b1 => ?_) (fun b1 => ?_)
  ·refine gZ ?_;exact t_ret ⟨by rw [bad (by simp at b1; simp [numbersF,b1])],rfl⟩
  refine t_pu (c49 _ _ _) ?_;refine gZ ?_;refine t_cond (fun b2 => ?_) (fun b2 => ?_)
  ·refine gZ ?_;exact t_ret ⟨by rw [bad (by simp at b2; simp [numbersF,b2])],rfl⟩
  refine t_pu (c56 _) ?_;refine gZ ?_;refine t_cond (fun b3 => ?_) (fun b3 => ?_)
  ·refine gZ ?_;exact t_ret ⟨by rw [bad (by simp at b3; simp [numbersF,b3])],rfl⟩
  refine t_pu (c49 _ _ _) ?_;refine gZ ?_;refine t_cond (fun b4 => ?_) (fun b4 => ?_)
  ·refine gZ ?_;exact t_ret ⟨by rw [bad (by simp at b4; simp [numbersF,b4])],rfl⟩
  exact t_again ⟨rfl,rfl,by simp at b1 b2 b3 b4; simp [numbersF,b1,b2,b3,b4]⟩
 rintro vs _ ⟨rfl,rfl,hnum⟩;refine gZ ?_;refine t_pu (c66 hu.excuses) ?_;refine gZ ?_;have h0:checkF u = firstF (fun _ x => x) 1 [excusesF u,papersF u,requestsF u] := by
  unfold checkF; rw [firstF,if_neg (by simp [hnum])]
 rw [firstF] at h0;refine t_cond (fun b => ?_) (fun b => ?_)
 ·rw [if_pos (show excusesF u ≠ 0 by simpa [excusesF] using b)] at h0;exact t_ret ⟨by rw [h0]; rfl,rfl⟩
 rw [if_neg (show ¬ excusesF u ≠ 0 by simpa [excusesF] using b),firstF] at h0;refine t_pu (c67 hu hnum) ?_;refine gZ ?_;refine t_cond (fun b => ?_) (fun b => ?_)
 ·rw [if_pos (by simpa using b)] at h0;exact t_ret ⟨by rw [h0],rfl⟩
 rw [if_neg (by simpa using b),firstF] at h0;refine t_pu (c68 hu hnum) ?_;refine gZ ?_;refine t_ret ⟨?_,rfl⟩;rw [h0];by_cases e:requestsF u = 0
 ·rw [if_neg (by simp [e]),e]; rfl
 ·rw [if_pos e]
end
section
open Go Go.TM Go.Proofs
set_option linter.unusedVariables false
set_option maxRecDepth 100000
variable {X:XP} {h:LH} {A:Value -> LH -> Prop}
def n3131 (t_0p:Option Addr) (t_0n t_0c:Nat) (t_1p:Option Addr) (t_1n t_1c:Nat) (t_2p:Option Addr) (t_2n t_2c:Nat):T := .blk (bif decide ((↑t_0n:Int) > 20) then .rn [true] else bif decide ((↑t_1n:Int) > 20) then .rn [true] else bif decide ((↑t_2n:Int) > 20) then .rn [true] else .ag [false]) (fun vs => .popB vs fun b vs => .unNil vs (.loop [b,.int .i64 0] (fun vs => .popB vs fun b vs => .pi vs fun n vs => .unNil vs (bif decide (n < (↑t_0n:Int)) then .need (0 <= n /\ n < (↑t_0n:Int)) (.someA t_0p fun a => .loadS ((a.add (n.toNat * 1)).add 0) fun p n_1 c => bif decide ((↑n_1:Int) > 20) then .rn [true,.int .i64 n] else .loop [b,.int .i64 0] (fun vs => .popB vs fun b vs => .pi vs fun n_2 vs => .unNil vs (.need (0 <= n /\ n < (↑t_0n:Int)) (.someA t_0p fun a => .loadS ((a.add (n.toNat * 1)).add 0) fun p n_3 c => bif decide (n_2 < (↑n_3:Int)) then .need (0 <= n /\ n < (↑t_0n:Int)) (.someA t_0p fun a => .loadS ((a.add (n.toNat * 1)).add 0) fun p n c => .need (0 <= n_2 /\ n_2 < (↑n:Int)) (.someA p fun a => .loadStr ((a.add (n_2.toNat * 2)).add 0) fun s => .sem false (Builtin.len_ #[9] 3 #[.string s]) fun v => .ui v fun n => bif decide (n > 100) then .rn [true,.int .i64 n_2] else .ag [b,.int .i64 (wrap .i64 (n_2 + 1))])) else .bk [b,.int .i64 n_2]))) (fun vs => .popB vs fun b vs => .pi vs fun n_2 vs => .unNil vs (.ag [b,.int .i64 (wrap .i64 (n + 1))])) (fun vs => .popB vs fun b vs => .pi vs fun n_2 vs => .unNil vs (.rn [b,.int .i64 n])) fun x x_1 => .fail) else .bk [b,.int .i64 n])) (fun vs => .popB vs fun b vs => .pi vs fun n vs => .unNil vs (.rt (.bool false))) (fun vs => .popB vs fun b vs => .pi vs fun n vs => .unNil vs (.rt (.bool b))) fun x x_1 => .fail)) (fun vs => .popB vs fun b vs => .unNil vs (.rt (.bool b))) fun x x_1 => .fail
theorem w3131 (t_0p:Option Addr) (t_0n t_0c:Nat) (t_1p:Option Addr) (t_1n t_1c:Nat) (t_2p:Option Addr) (t_2n t_2c:Nat):FX X 22 #[.agg #[.slice t_0p t_0n t_0c,.slice t_1p t_1n t_1c,.slice t_2p t_2n t_2c]] h A (n3131 t_0p t_0n t_0c t_1p t_1n t_1c t_2p t_2n t_2c) := fk [1] [⟨2,[(2,.bool),(4,.int .i64)],[1],[],[],[]⟩,⟨0,[(2,.bool),(3,.int .i64)],[1],[],[],[]⟩] [⟨3,[(2,.bool)],[1],[],[],[]⟩] Tryz.f22
def n3132 (t_0p:Option Addr) (t_0n t_0c:Nat) (t_1p:Option Addr) (t_1n t_1c:Nat) (t_2p:Option Addr) (t_2n t_2c:Nat):T := .cB 50 #[.int .i64 (↑t_0n:Int),.int .i64 1,.int .i64 3] fun b => bif !b then .rt (.int .i64 2) else .loop [.int .i64 0,.int .i64 0] (fun vs => .pi vs fun n vs => .pi vs fun n_1 vs => .unNil vs (bif decide (n_1 < (↑t_0n:Int)) then .need (0 <= n_1 /\ n_1 < (↑t_0n:Int)) (.someA t_0p fun a => .loadS ((a.add (n_1.toNat * 1)).add 0) fun p n_2 c => .cI 55 #[.agg #[.slice p n_2 c]] fun n_3 => bif n_3 != 0 then .rn [n_3,.int .i64 n_1] else .ag [n,.int .i64 (wrap .i64 (n_1 + 1))]) else .bk [n,.int .i64 n_1])) (fun vs => .pi vs fun n vs => .pi vs fun n_1 vs => .unNil vs (bif decide ((↑t_1n:Int) > 16) then .rt (.int .i64 2) else .loop [n,.int .i64 0] (fun vs => .pi vs fun n vs => .pi vs fun n_2 vs => .unNil vs (bif decide (n_2 < (↑t_1n:Int)) then .cI 56 #[.agg #[.slice t_0p t_0n t_0c,.slice t_1p t_1n t_1c,.slice t_2p t_2n t_2c],.int .i64 n_2] fun n_3 => bif n_3 != 0 then .rn [n_3,.int .i64 n_2] else .ag [n,.int .i64 (wrap .i64 (n_2 + 1))] else .bk [n,.int .i64 n_2])) (fun vs => .pi vs fun n vs => .pi vs fun n_2 vs => .unNil vs (bif decide ((↑t_2n:Int) > 10) then .rt (.int .i64 2) else .loop [n,.int .i64 0] (fun vs => .pi vs fun n vs => .pi vs fun n_3 vs => .unNil vs (bif decide (n_3 < (↑t_2n:Int)) then .cI 57 #[.agg #[.slice t_0p t_0n t_0c,.slice t_1p t_1n t_1c,.slice t_2p t_2n t_2c],.int .i64 n_3] fun n_4 => bif n_4 != 0 then .rn [n_4,.int .i64 n_3] else .ag [n,.int .i64 (wrap .i64 (n_3 + 1))] else .bk [n,.int .i64 n_3])) (fun vs => .pi vs fun n vs => .pi vs fun n vs => .unNil vs (.rt (.int .i64 0))) (fun vs => .pi vs fun n vs => .pi vs fun n_3 vs => .unNil vs (.rt (.int .i64 n))) fun x x_1 => .fail)) (fun vs => .pi vs fun n vs => .pi vs fun n_2 vs => .unNil vs (.rt (.int .i64 n))) fun x x_1 => .fail)) (fun vs => .pi vs fun n vs => .pi vs fun n_1 vs => .unNil vs (.rt (.int .i64 n))) fun x x_1 => .fail
theorem w3132 (t_0p:Option Addr) (t_0n t_0c:Nat) (t_1p:Option Addr) (t_1n t_1c:Nat) (t_2p:Option Addr) (t_2n t_2c:Nat):FX X 23 #[.agg #[.slice t_0p t_0n t_0c,.slice t_1p t_1n t_1c,.slice t_2p t_2n t_2c]] h A (n3132 t_0p t_0n t_0c t_1p t_1n t_1c t_2p t_2n t_2c) := fk [1] [⟨0,[(2,.int .i64),(3,.int .i64)],[1],[],[],[]⟩,⟨2,[(2,.int .i64),(5,.int .i64)],[1],[],[],[]⟩,⟨4,[(2,.int .i64),(7,.int .i64)],[1],[],[],[]⟩] [] Tryz.f23
def n3136 (t_0p:Option Addr) (t_0n t_0c:Nat) (t_1p:Option Addr) (t_1n t_1c:Nat) (t_2p:Option Addr) (t_2n t_2c:Nat) (edition:Int) (listp:Option Addr) (listn listc:Nat):T := .loop [.int .i64 0,.int .i64 0] (fun vs => .pi vs fun n vs => .pi vs fun n_1 vs => .unNil vs (bif decide (n_1 < (↑listn:Int)) then .need (0 <= n_1 /\ n_1 < (↑listn:Int)) (.someA listp fun a => .li (a.add (n_1.toNat * 1)) fun n_2 => .cB 187 #[.agg #[.slice t_0p t_0n t_0c,.slice t_1p t_1n t_1c,.slice t_2p t_2n t_2c],.int .i64 edition,.int .i64 n_2] fun b => bif !b then .rn [.int .i64 6,.int .i64 n_1] else bif decide (n_1 > 0) then .need (0 <= wrap .i64 (n_1 - 1) /\ wrap .i64 (n_1 - 1) < (↑listn:Int)) (.someA listp fun a => .li (a.add ((wrap .i64 (n_1 - 1)).toNat * 1)) fun n_3 => bif decide (n_2 <= n_3) then .rn [.int .i64 7,.int .i64 n_1] else .ag [n,.int .i64 (wrap .i64 (n_1 + 1))]) else .ag [n,.int .i64 (wrap .i64 (n_1 + 1))]) else .bk [n,.int .i64 n_1])) (fun vs => .pi vs fun n vs => .pi vs fun n vs => .unNil vs (.rt (.int .i64 0))) (fun vs => .pi vs fun n vs => .pi vs fun n_1 vs => .unNil vs (.rt (.int .i64 n))) fun x x_1 => .fail
theorem w3136 (t_0p:Option Addr) (t_0n t_0c:Nat) (t_1p:Option Addr) (t_1n t_1c:Nat) (t_2p:Option Addr) (t_2n t_2c:Nat) (edition:Int) (listp:Option Addr) (listn listc:Nat):FX X 148 #[.agg #[.slice t_0p t_0n t_0c,.slice t_1p t_1n t_1c,.slice t_2p t_2n t_2c],.int .i64 edition,.slice listp listn listc] h A (n3136 t_0p t_0n t_0c t_1p t_1n t_1c t_2p t_2n t_2c edition listp listn listc) := fk [3] [⟨0,[(6,.int .i64),(11,.int .i64)],[3],[],[],[]⟩] [] Tryz.f148
def n3140 (s:ByteArray):T := .blk (.sem false (Builtin.len_ #[9] 3 #[.string s]) fun v => .ui v fun n => bif n == 0 then .rn [false] else .sem false (Builtin.len_ #[9] 3 #[.string s]) fun v => .ui v fun n => bif decide (n > 10) then .rn [false] else .ag [false]) (fun vs => .popB vs fun b vs => .unNil vs (.loop [b,.int .i64 0] (fun vs => .popB vs fun b vs => .pi vs fun n vs => .unNil vs (.sem false (Builtin.len_ #[9] 3 #[.string s]) fun v => .ui v fun n_1 => bif decide (n < n_1) then .blk (.both (.sem false (Instr.index 9 (.string s) (.int .i64 n)) fun v => .unI .u8 v fun n_2 => .nd n (.nd (.string s) (.both (.cB 50 #[.int .i64 (wrap .i64 n_2),.int .i64 97,.int .i64 122] fun b => .nd n (.nd (.string s) (.sem false (Instr.index 9 (.string s) (.int .i64 n)) fun v => .unI .u8 v fun n => .cB 50 #[.int .i64 (wrap .i64 n),.int .i64 48,.int .i64 57] fun b_1 => .ag [b,.bool b_1]))) (.sem false (Instr.index 9 (.string s) (.int .i64 n)) fun v => .unI .u8 v fun n => .nd (.int .i64 (wrap .i64 n_2)) (.cB 50 #[.int .i64 (wrap .i64 n_2),.int .i64 97,.int .i64 122] fun b => .nd (.int .i64 (wrap .i64 n)) (.cB 50 #[.int .i64 (wrap .i64 n),.int .i64 48,.int .i64 57] fun b_1 => .ag [b,.bool b_1])))))) (.sem false (Instr.index 9 (.string s) (.int .i64 n)) fun v => .unI .u8 v fun n_2 => .nd n (.nd (.string s) (.sem false (Instr.index 9 (.string s) (.int .i64 n)) fun v => .unI .u8 v fun n => .nd (.int .i64 (wrap .i64 n_2)) (.cB 50 #[.int .i64 (wrap .i64 n),.int .i64 97,.int .i64 122] fun b => .nd (.int .i64 (wrap .i64 n_2)) (.cB 50 #[.int .i64 (wrap .i64 n_2),.int .i64 48,.int .i64 57] fun b_1 => .ag [b,.bool b_1])))))) (fun vs => .popB vs fun b_1 vs => .popB vs fun b_2 vs => .unNil vs (bif !b_1 then bif !b_2 then .rn [false,.int .i64 n] else bif n == 0 then .rn [false,.int .i64 n] else .ag [b,.int .i64 (wrap .i64 (n + 1))] else .ag [b,.int .i64 (wrap .i64 (n + 1))])) (fun vs => .popB vs fun b_1 vs => .popB vs fun b_2 vs => .unNil vs (.rn [b,.int .i64 n])) fun x x_1 => .fail else .bk [b,.int .i64 n])) (fun vs => .popB vs fun b vs => .pi vs fun n vs => .unNil vs (.rt (.bool true))) (fun vs => .popB vs fun b vs => .pi vs fun n vs => .unNil vs (.rt (.bool b))) fun x x_1 => .fail)) (fun vs => .popB vs fun b vs => .unNil vs (.rt (.bool b))) fun x x_1 => .fail
theorem w3140 (s:ByteArray):FX X 95 #[.string s] h A (n3140 s) := fk [] [⟨0,[(2,.bool),(3,.int .i64)],[],[],[],[]⟩] [⟨7,[(4,.bool),(5,.bool)],[],[],[],[]⟩,⟨3,[(2,.bool)],[],[],[],[]⟩] Tryz.f95
def n3160 (t_0p:Option Addr) (t_0n t_0c:Nat) (t_1p:Option Addr) (t_1n t_1c:Nat) (t_2p:Option Addr) (t_2n t_2c:Nat):T := .sem false (Instr.buildSlice 278 3 #[(0,.func (Fn.func 184) #[.agg #[.slice t_0p t_0n t_0c,.slice t_1p t_1n t_1c,.slice t_2p t_2n t_2c]] #[]),(1,.func (Fn.func 185) #[.agg #[.slice t_0p t_0n t_0c,.slice t_1p t_1n t_1c,.slice t_2p t_2n t_2c]] #[]),(2,.func (Fn.func 186) #[.agg #[.slice t_0p t_0n t_0c,.slice t_1p t_1n t_1c,.slice t_2p t_2n t_2c]] #[])]) fun v => .unS v fun a n c => .loop [.int .i64 0,.int .i64 0] (fun vs => .pi vs fun n_1 vs => .pi vs fun n_2 vs => .unNil vs (bif decide (n_2 < (↑n:Int)) then .need (0 <= n_2 /\ n_2 < (↑n:Int)) (.someA a fun a => .loadV (a.add (n_2.toNat * 1)) fun v => .callv false v #[] fun v => .ui v fun n => bif n != 0 then .rn [n,.int .i64 n_2] else .ag [n_1,.int .i64 (wrap .i64 (n_2 + 1))]) else .bk [n_1,.int .i64 n_2])) (fun vs => .pi vs fun n vs => .pi vs fun n vs => .unNil vs (.rt (.int .i64 0))) (fun vs => .pi vs fun n vs => .pi vs fun n_1 vs => .unNil vs (.rt (.int .i64 n))) fun x x_1 => .fail
theorem w3160 (t_0p:Option Addr) (t_0n t_0c:Nat) (t_1p:Option Addr) (t_1n t_1c:Nat) (t_2p:Option Addr) (t_2n t_2c:Nat):FX X 146 #[.agg #[.slice t_0p t_0n t_0c,.slice t_1p t_1n t_1c,.slice t_2p t_2n t_2c]] h A (n3160 t_0p t_0n t_0c t_1p t_1n t_1c t_2p t_2n t_2c) := fk [1,3] [⟨0,[(2,.int .i64),(17,.int .i64)],[1,3],[],[],[]⟩] [] Tryz.f146
def n3161 (t_0p:Option Addr) (t_0n t_0c:Nat) (t_1p:Option Addr) (t_1n t_1c:Nat) (t_2p:Option Addr) (t_2n t_2c:Nat) (n:Int):T := .cB 122 #[n,.int .i64 0,.int .i64 (wrap .i64 ((↑t_0n:Int) - 1))] fun b => .rt (.bool b)
theorem w3161 (t_0p:Option Addr) (t_0n t_0c:Nat) (t_1p:Option Addr) (t_1n t_1c:Nat) (t_2p:Option Addr) (t_2n t_2c:Nat) (n:Int):FX X 147 #[.agg #[.slice t_0p t_0n t_0c,.slice t_1p t_1n t_1c,.slice t_2p t_2n t_2c],.int .i64 n] h A (n3161 t_0p t_0n t_0c t_1p t_1n t_1c t_2p t_2n t_2c n) := fk [2] [] [] Tryz.f147
def n3165 (ep:Option Addr) (en ec:Nat):T := bif decide ((↑en:Int) > 8) then .rt (.int .i64 2) else .loop [.int .i64 0,.int .i64 0] (fun vs => .pi vs fun n vs => .pi vs fun n_1 vs => .unNil vs (bif decide (n_1 < (↑en:Int)) then .need (0 <= n_1 /\ n_1 < (↑en:Int)) (.someA ep fun a => .loadStr ((a.add (n_1.toNat * 2)).add 0) fun s => .cB 95 #[.string s] fun b => bif !b then .rn [.int .i64 4,.int .i64 n_1] else .loop [n,.int .i64 0] (fun vs => .pi vs fun n vs => .pi vs fun n_2 vs => .unNil vs (bif decide (n_2 < n_1) then .need (0 <= n_2 /\ n_2 < (↑en:Int)) (.someA ep fun a => .loadStr ((a.add (n_2.toNat * 2)).add 0) fun s => .need (0 <= n_1 /\ n_1 < (↑en:Int)) (.someA ep fun a_1 => .loadStr ((a_1.add (n_1.toNat * 2)).add 0) fun s_1 => .sem false (Sem.bind (eqGuard BinOp.eql 9 (Operand.tmp 34) (Operand.tmp 40) (.string s) (.string s_1)) fun __r => binOp BinOp.eql 9 (.string s) (.string s_1)) fun v => .unB v fun b => .nd (.pointer (some ((a_1.add (n_1.toNat * 2)).add 0))) (.need (0 <= n_1 /\ n_1 < (↑en:Int)) (.someA ep fun a_2 => .ne (.pointer (some (a_2.add (n_1.toNat * 2)))) (.pointer (some (a_1.add (n_1.toNat * 2)))) (.nd n_1 (.nS ep en ec (.np 1 0 (.nd (.pointer (some ((a.add (n_2.toNat * 2)).add 0))) (.need (0 <= n_2 /\ n_2 < (↑en:Int)) (.someA ep fun a_3 => .ne (.pointer (some (a_3.add (n_2.toNat * 2)))) (.pointer (some (a.add (n_2.toNat * 2)))) (.nd n_2 (.nS ep en ec (.np 1 0 (bif b then .rn [.int .i64 5,.int .i64 n_2] else .ag [n,.int .i64 (wrap .i64 (n_2 + 1))])))))))))))))) else .bk [n,.int .i64 n_2])) (fun vs => .pi vs fun n vs => .pi vs fun n_2 vs => .unNil vs (.need (0 <= n_1 /\ n_1 < (↑en:Int)) (.someA ep fun a => .li ((a.add (n_1.toNat * 2)).add 1) fun n_3 => .cB 50 #[n_3,.int .i64 1,.int .i64 45] fun b => bif !b then .rn [.int .i64 1,.int .i64 n_1] else .ag [n,.int .i64 (wrap .i64 (n_1 + 1))]))) (fun vs => .pi vs fun n vs => .pi vs fun n_2 vs => .unNil vs (.rn [n,.int .i64 n_1])) fun x x_1 => .fail) else .bk [n,.int .i64 n_1])) (fun vs => .pi vs fun n vs => .pi vs fun n vs => .unNil vs (.rt (.int .i64 0))) (fun vs => .pi vs fun n vs => .pi vs fun n_1 vs => .unNil vs (.rt (.int .i64 n))) fun x x_1 => .fail
theorem w3165 (ep:Option Addr) (en ec:Nat):FX X 55 #[.agg #[.slice ep en ec]] h A (n3165 ep en ec) := fk [1] [⟨2,[(2,.int .i64),(4,.int .i64)],[1],[],[],[]⟩,⟨0,[(2,.int .i64),(3,.int .i64)],[1],[],[],[]⟩] [] Tryz.f55
def n3166 (t_0p:Option Addr) (t_0n t_0c:Nat) (t_1p:Option Addr) (t_1n t_1c:Nat) (t_2p:Option Addr) (t_2n t_2c:Nat) (i:Int):T := .need (0 <= i /\ i < (↑t_1n:Int)) (.someA t_1p fun a => .li ((a.add (i.toNat * 3)).add 0) fun n => .li ((a.add (i.toNat * 3)).add 1) fun n_1 => .li ((a.add (i.toNat * 3)).add 2) fun n_2 => .blk (.cB 50 #[n,.int .i64 0,.int .i64 (wrap .i64 ((↑t_0n:Int) - 2))] fun b => .nd (.int .i64 (↑t_0n:Int)) (.nS t_0p t_0n t_0c (.np 2 0 (.np 5 0 (bif !b then .nU (.nU (.nU (.nU (.nU (.nU (.nU (.nU (.nb (!b) (.nd (.int .i64 (↑t_0n:Int)) (.nS t_0p t_0n t_0c (.np 2 0 (.np 5 0 (.nU (.nU (.nU (.nU (.nU (.nU (.nU (.nU (.nb (!b) (.nd (.int .i64 (↑t_0n:Int)) (.nS t_0p t_0n t_0c (.np 2 0 (.np 5 0 (.nU (.nU (.nU (.nU (.nU (.nU (.nU (.nb (!b) (.nd (.int .i64 (↑t_0n:Int)) (.nS t_0p t_0n t_0c (.np 2 0 (.np 5 0 (.nU (.nU (.nU (.nU (.nU (.nU (.nU (.nb (!b) (.nd (.int .i64 (↑t_0n:Int)) (.nS t_0p t_0n t_0c (.np 2 0 (.np 5 0 (.nU (.nU (.nU (.nU (.nU (.nd true (.nU (.nU (.nU (.nU (.nU (.nU (.nU (.nb (!b) (.nd (.int .i64 (↑t_0n:Int)) (.nS t_0p t_0n t_0c (.np 2 0 (.np 5 0 (.nU (.nU (.nU (.nU (.nU (.nU (.nU (.nd true (.nU (.nU (.nU (.nU (.nU (.nU (.nU (.nb (!b) (.nd (.int .i64 (↑t_0n:Int)) (.nS t_0p t_0n t_0c (.np 2 0 (.np 5 0 (.nU (.nU (.nU (.nU (.nU (.nU (.nU (.nd true (.nU (.nU (.nU (.nU (.nU (.nU (.nU (.nb (!b) (.nd (.int .i64 (↑t_0n:Int)) (.nS t_0p t_0n t_0c (.np 2 0 (.np 5 0 (.nU (.nU (.nU (.nU (.nU (.nU (.nd true (.nU (.nU (.nU (.nU (.nU (.nU (.nU (.nb (!b) (.nd (.int .i64 (↑t_0n:Int)) (.nS t_0p t_0n t_0c (.np 2 0 (.np 5 0 (.nU (.nU (.nU (.nU (.nU (.nU (.nd true (.nU (.nU (.nU (.nU (.nU (.nU (.nU (.nb (!b) (.nd (.int .i64 (↑t_0n:Int)) (.nS t_0p t_0n t_0c (.np 2 0 (.np 5 0 (.rn [.int .i64 6])))))))))))))))))))))))))))))))))))))))))))))))))))))))))))))))))))))))))))))))))))))))))))))))))))))))))))))))))))))))))))))))))))))))))))))))))) else .need (0 <= n /\ n < (↑t_0n:Int)) (.someA t_0p fun a => .loadS ((a.add (n.toNat * 1)).add 0) fun p n_3 c => .cB 50 #[n_1,.int .i64 0,.int .i64 (wrap .i64 ((↑n_3:Int) - 1))] fun b_1 => .nd (.int .i64 (↑n_3:Int)) (.loadS ((a.add (n.toNat * 1)).add 0) fun p_1 n_4 c_1 => .ne (.slice p_1 n_4 c_1) (.slice p n_3 c) (.nd (.pointer (some ((a.add (n.toNat * 1)).add 0))) (.need (0 <= n /\ n < (↑t_0n:Int)) (.someA t_0p fun a_1 => .ne (.pointer (some (a_1.add (n.toNat * 1)))) (.pointer (some (a.add (n.toNat * 1)))) (.nd n (.np 5 0 (.nS t_0p t_0n t_0c (.np 2 0 (.np 5 1 (.nb (!b) (.nd (.int .i64 (↑t_0n:Int)) (.nS t_0p t_0n t_0c (.np 2 0 (.np 5 0 (bif !b_1 then .nU (.nU (.nU (.nU (.nU (.nb (!b_1) (.nb (!b_1) (.nd (.int .i64 (↑n_3:Int)) (.loadS ((a.add (n.toNat * 1)).add 0) fun p_2 n_5 c_2 => .ne (.slice p_2 n_5 c_2) (.slice p n_3 c) (.nd (.pointer (some ((a.add (n.toNat * 1)).add 0))) (.need (0 <= n /\ n < (↑t_0n:Int)) (.someA t_0p fun a_2 => .ne (.pointer (some (a_2.add (n.toNat * 1)))) (.pointer (some (a.add (n.toNat * 1)))) (.nd n (.np 5 0 (.nS t_0p t_0n t_0c (.np 2 0 (.np 5 1 (.nb (!b) (.nd (.int .i64 (↑t_0n:Int)) (.nS t_0p t_0n t_0c (.np 2 0 (.np 5 0 (.nU (.nU (.nU (.nU (.nU (.nU (.nU (.nb (!b_1) (.nb (!b_1) (.nd (.int .i64 (↑n_3:Int)) (.loadS ((a.add (n.toNat * 1)).add 0) fun p_3 n_6 c_3 => .ne (.slice p_3 n_6 c_3) (.slice p n_3 c) (.nd (.pointer (some ((a.add (n.toNat * 1)).add 0))) (.need (0 <= n /\ n < (↑t_0n:Int)) (.someA t_0p fun a_3 => .ne (.pointer (some (a_3.add (n.toNat * 1)))) (.pointer (some (a.add (n.toNat * 1)))) (.nd n (.np 5 0 (.nS t_0p t_0n t_0c (.np 2 0 (.np 5 1 (.nb (!b) (.nd (.int .i64 (↑t_0n:Int)) (.nS t_0p t_0n t_0c (.np 2 0 (.np 5 0 (.nU (.nU (.nU (.nU (.nU (.nU (.nU (.nb (!b_1) (.nb (!b_1) (.nd (.int .i64 (↑n_3:Int)) (.loadS ((a.add (n.toNat * 1)).add 0) fun p_4 n_7 c_4 => .ne (.slice p_4 n_7 c_4) (.slice p n_3 c) (.nd (.pointer (some ((a.add (n.toNat * 1)).add 0))) (.need (0 <= n /\ n < (↑t_0n:Int)) (.someA t_0p fun a_4 => .ne (.pointer (some (a_4.add (n.toNat * 1)))) (.pointer (some (a.add (n.toNat * 1)))) (.nd n (.np 5 0 (.nS t_0p t_0n t_0c (.np 2 0 (.np 5 1 (.nb (!b) (.nd (.int .i64 (↑t_0n:Int)) (.nS t_0p t_0n t_0c (.np 2 0 (.np 5 0 (.nU (.nU (.nU (.nU (.nU (.nU (.nb (!b_1) (.nb (!b_1) (.nd (.int .i64 (↑n_3:Int)) (.loadS ((a.add (n.toNat * 1)).add 0) fun p_5 n_8 c_5 => .ne (.slice p_5 n_8 c_5) (.slice p n_3 c) (.nd (.pointer (some ((a.add (n.toNat * 1)).add 0))) (.need (0 <= n /\ n < (↑t_0n:Int)) (.someA t_0p fun a_5 => .ne (.pointer (some (a_5.add (n.toNat * 1)))) (.pointer (some (a.add (n.toNat * 1)))) (.nd n (.np 5 0 (.nS t_0p t_0n t_0c (.np 2 0 (.np 5 1 (.nb (!b) (.nd (.int .i64 (↑t_0n:Int)) (.nS t_0p t_0n t_0c (.np 2 0 (.np 5 0 (.nU (.nU (.nU (.nU (.nU (.nU (.nb (!b_1) (.nb (!b_1) (.nd (.int .i64 (↑n_3:Int)) (.loadS ((a.add (n.toNat * 1)).add 0) fun p_6 n_9 c_6 => .ne (.slice p_6 n_9 c_6) (.slice p n_3 c) (.nd (.pointer (some ((a.add (n.toNat * 1)).add 0))) (.need (0 <= n /\ n < (↑t_0n:Int)) (.someA t_0p fun a_6 => .ne (.pointer (some (a_6.add (n.toNat * 1)))) (.pointer (some (a.add (n.toNat * 1)))) (.nd n (.np 5 0 (.nS t_0p t_0n t_0c (.np 2 0 (.np 5 1 (.nb (!b) (.nd (.int .i64 (↑t_0n:Int)) (.nS t_0p t_0n t_0c (.np 2 0 (.np 5 0 (.rn [.int .i64 6])))))))))))))))))))))))))))))))))))))))))))))))))))))))))))))))))))))))))))))))))))))))))))))))))))))))))))))))))))) else .need (0 <= wrap .i64 (n + 1) /\ wrap .i64 (n + 1) < (↑t_0n:Int)) (.someA t_0p fun a_2 => .loadS ((a_2.add ((wrap .i64 (n + 1)).toNat * 1)).add 0) fun p_2 n_5 c_2 => .cB 50 #[n_2,.int .i64 0,.int .i64 (wrap .i64 ((↑n_5:Int) - 1))] fun b_2 => .nd (.int .i64 (↑n_5:Int)) (.loadS ((a_2.add ((wrap .i64 (n + 1)).toNat * 1)).add 0) fun p_3 n_6 c_3 => .ne (.slice p_3 n_6 c_3) (.slice p_2 n_5 c_2) (.nd (.pointer (some ((a_2.add ((wrap .i64 (n + 1)).toNat * 1)).add 0))) (.need (0 <= wrap .i64 (n + 1) /\ wrap .i64 (n + 1) < (↑t_0n:Int)) (.someA t_0p fun a_3 => .ne (.pointer (some (a_3.add ((wrap .i64 (n + 1)).toNat * 1)))) (.pointer (some (a_2.add ((wrap .i64 (n + 1)).toNat * 1)))) (.nd (.int .i64 (wrap .i64 (n + 1))) (.nd n (.np 5 0 (.nS t_0p t_0n t_0c (.np 2 0 (.np 5 2 (.nb (!b_1) (.nb (!b_1) (.nd (.int .i64 (↑n_3:Int)) (.loadS ((a.add (n.toNat * 1)).add 0) fun p_4 n_7 c_4 => .ne (.slice p_4 n_7 c_4) (.slice p n_3 c) (.nd (.pointer (some ((a.add (n.toNat * 1)).add 0))) (.need (0 <= n /\ n < (↑t_0n:Int)) (.someA t_0p fun a_4 => .ne (.pointer (some (a_4.add (n.toNat * 1)))) (.pointer (some (a.add (n.toNat * 1)))) (.nd n (.np 5 0 (.nS t_0p t_0n t_0c (.np 2 0 (.np 5 1 (.nb (!b) (.nd (.int .i64 (↑t_0n:Int)) (.nS t_0p t_0n t_0c (.np 2 0 (.np 5 0 (bif !b_2 then .rn [.int .i64 6] else .ag [.int .i64 0])))))))))))))))))))))))))))))))))))))))))))))))))) (fun vs => .pi vs fun n_3 vs => .unNil vs (.loop [n_3,.int .i64 0] (fun vs => .pi vs fun n_4 vs => .pi vs fun n_5 vs => .unNil vs (bif decide (n_5 < i) then .need (0 <= n_5 /\ n_5 < (↑t_1n:Int)) (.someA t_1p fun a => .li ((a.add (n_5.toNat * 3)).add 0) fun n_6 => .li ((a.add (n_5.toNat * 3)).add 1) fun n_7 => .li ((a.add (n_5.toNat * 3)).add 2) fun n_8 => .sem false (Sem.bind (eqGuard BinOp.eql 176 (Operand.tmp 60) (Operand.tmp 61) (.agg #[n_6,.int .i64 n_7,.int .i64 n_8]) (.agg #[n,.int .i64 n_1,.int .i64 n_2])) fun __r => binOp BinOp.eql 176 (.agg #[n_6,.int .i64 n_7,.int .i64 n_8]) (.agg #[n,.int .i64 n_1,.int .i64 n_2])) fun v => .unB v fun b => .need (0 <= n_5 /\ n_5 < (↑t_1n:Int)) (.someA t_1p fun a_1 => .ne (.pointer (some (a_1.add (n_5.toNat * 3)))) (.pointer (some (a.add (n_5.toNat * 3)))) (.nd n_5 (.nS t_1p t_1n t_1c (.np 2 1 (bif b then .rn [.int .i64 5,.int .i64 n_5] else .ag [n_4,.int .i64 (wrap .i64 (n_5 + 1))])))))) else .bk [n_4,.int .i64 n_5])) (fun vs => .pi vs fun n vs => .pi vs fun n vs => .unNil vs (.rt (.int .i64 0))) (fun vs => .pi vs fun n vs => .pi vs fun n_4 vs => .unNil vs (.rt (.int .i64 n))) fun x x_1 => .fail)) (fun vs => .pi vs fun n vs => .unNil vs (.rt (.int .i64 n))) fun x x_1 => .fail)
theorem w3166 (t_0p:Option Addr) (t_0n t_0c:Nat) (t_1p:Option Addr) (t_1n t_1c:Nat) (t_2p:Option Addr) (t_2n t_2c:Nat) (i:Int):FX X 56 #[.agg #[.slice t_0p t_0n t_0c,.slice t_1p t_1n t_1c,.slice t_2p t_2n t_2c],.int .i64 i] h A (n3166 t_0p t_0n t_0c t_1p t_1n t_1c t_2p t_2n t_2c i) := fk [2,5] [⟨0,[(4,.int .i64),(6,.int .i64)],[2,5],[],[],[]⟩] [⟨4,[(4,.int .i64)],[2,5],[],[],[]⟩] Tryz.f56
def n3167 (t_0p:Option Addr) (t_0n t_0c:Nat) (t_1p:Option Addr) (t_1n t_1c:Nat) (t_2p:Option Addr) (t_2n t_2c:Nat) (i:Int):T := .need (0 <= i /\ i < (↑t_2n:Int)) (.someA t_2p fun a => .li ((a.add (i.toNat * 4)).add 0) fun n => .li ((a.add (i.toNat * 4)).add 1) fun n_1 => .li ((a.add (i.toNat * 4)).add 2) fun n_2 => .li ((a.add (i.toNat * 4)).add 3) fun n_3 => .blk (.cB 50 #[n,.int .i64 0,.int .i64 (wrap .i64 ((↑t_0n:Int) - 1))] fun b => .nd (.int .i64 (↑t_0n:Int)) (.nS t_0p t_0n t_0c (.np 2 0 (.np 5 0 (bif !b then .nU (.nU (.nU (.nU (.nU (.nU (.nU (.nU (.nb (!b) (.nd (.int .i64 (↑t_0n:Int)) (.nS t_0p t_0n t_0c (.np 2 0 (.np 5 0 (.nU (.nU (.nU (.nU (.nU (.nU (.nU (.nU (.nb (!b) (.nd (.int .i64 (↑t_0n:Int)) (.nS t_0p t_0n t_0c (.np 2 0 (.np 5 0 (.nU (.nU (.nU (.nU (.nU (.nU (.nU (.nb (!b) (.nd (.int .i64 (↑t_0n:Int)) (.nS t_0p t_0n t_0c (.np 2 0 (.np 5 0 (.nU (.nU (.nU (.nU (.nU (.nU (.nU (.nb (!b) (.nd (.int .i64 (↑t_0n:Int)) (.nS t_0p t_0n t_0c (.np 2 0 (.np 5 0 (.nU (.nU (.nU (.nU (.nU (.nU (.nU (.nU (.nd true (.nU (.nU (.nU (.nU (.nU (.nU (.nU (.nb (!b) (.nd (.int .i64 (↑t_0n:Int)) (.nS t_0p t_0n t_0c (.np 2 0 (.np 5 0 (.nU (.nU (.nU (.nU (.nU (.nU (.nU (.nU (.nd true (.nU (.nU (.nU (.nU (.nU (.nU (.nU (.nb (!b) (.nd (.int .i64 (↑t_0n:Int)) (.nS t_0p t_0n t_0c (.np 2 0 (.np 5 0 (.nU (.nU (.nU (.nU (.nU (.nU (.nU (.nd true (.nU (.nU (.nU (.nU (.nU (.nU (.nU (.nb (!b) (.nd (.int .i64 (↑t_0n:Int)) (.nS t_0p t_0n t_0c (.np 2 0 (.np 5 0 (.nU (.nU (.nU (.nU (.nU (.nU (.nU (.nd true (.nU (.nU (.nU (.nU (.nU (.nU (.nU (.nb (!b) (.nd (.int .i64 (↑t_0n:Int)) (.nS t_0p t_0n t_0c (.np 2 0 (.np 5 0 (.rn [.int .i64 6])))))))))))))))))))))))))))))))))))))))))))))))))))))))))))))))))))))))))))))))))))))))))))))))))))))))))))))))))))))))))))))))))))) else .need (0 <= n /\ n < (↑t_0n:Int)) (.someA t_0p fun a => .loadS ((a.add (n.toNat * 1)).add 0) fun p n_4 c => .cB 50 #[n_1,.int .i64 0,.int .i64 (wrap .i64 ((↑n_4:Int) - 1))] fun b_1 => .nd (.int .i64 (↑n_4:Int)) (.loadS ((a.add (n.toNat * 1)).add 0) fun p_1 n_5 c_1 => .ne (.slice p_1 n_5 c_1) (.slice p n_4 c) (.nd (.pointer (some ((a.add (n.toNat * 1)).add 0))) (.need (0 <= n /\ n < (↑t_0n:Int)) (.someA t_0p fun a_1 => .ne (.pointer (some (a_1.add (n.toNat * 1)))) (.pointer (some (a.add (n.toNat * 1)))) (.nd n (.np 5 0 (.nS t_0p t_0n t_0c (.np 2 0 (.np 5 1 (.nb (!b) (.nd (.int .i64 (↑t_0n:Int)) (.nS t_0p t_0n t_0c (.np 2 0 (.np 5 0 (bif !b_1 then .nU (.nU (.nU (.nU (.nU (.nU (.nU (.nU (.nb (!b_1) (.nb (!b_1) (.nd (.int .i64 (↑n_4:Int)) (.loadS ((a.add (n.toNat * 1)).add 0) fun p_2 n_6 c_2 => .ne (.slice p_2 n_6 c_2) (.slice p n_4 c) (.nd (.pointer (some ((a.add (n.toNat * 1)).add 0))) (.need (0 <= n /\ n < (↑t_0n:Int)) (.someA t_0p fun a_2 => .ne (.pointer (some (a_2.add (n.toNat * 1)))) (.pointer (some (a.add (n.toNat * 1)))) (.nd n (.np 5 0 (.nS t_0p t_0n t_0c (.np 2 0 (.np 5 1 (.nb (!b) (.nd (.int .i64 (↑t_0n:Int)) (.nS t_0p t_0n t_0c (.np 2 0 (.np 5 0 (.nU (.nU (.nU (.nU (.nU (.nU (.nU (.nU (.nb (!b_1) (.nb (!b_1) (.nd (.int .i64 (↑n_4:Int)) (.loadS ((a.add (n.toNat * 1)).add 0) fun p_3 n_7 c_3 => .ne (.slice p_3 n_7 c_3) (.slice p n_4 c) (.nd (.pointer (some ((a.add (n.toNat * 1)).add 0))) (.need (0 <= n /\ n < (↑t_0n:Int)) (.someA t_0p fun a_3 => .ne (.pointer (some (a_3.add (n.toNat * 1)))) (.pointer (some (a.add (n.toNat * 1)))) (.nd n (.np 5 0 (.nS t_0p t_0n t_0c (.np 2 0 (.np 5 1 (.nb (!b) (.nd (.int .i64 (↑t_0n:Int)) (.nS t_0p t_0n t_0c (.np 2 0 (.np 5 0 (.nU (.nU (.nU (.nU (.nU (.nU (.nU (.nb (!b_1) (.nb (!b_1) (.nd (.int .i64 (↑n_4:Int)) (.loadS ((a.add (n.toNat * 1)).add 0) fun p_4 n_8 c_4 => .ne (.slice p_4 n_8 c_4) (.slice p n_4 c) (.nd (.pointer (some ((a.add (n.toNat * 1)).add 0))) (.need (0 <= n /\ n < (↑t_0n:Int)) (.someA t_0p fun a_4 => .ne (.pointer (some (a_4.add (n.toNat * 1)))) (.pointer (some (a.add (n.toNat * 1)))) (.nd n (.np 5 0 (.nS t_0p t_0n t_0c (.np 2 0 (.np 5 1 (.nb (!b) (.nd (.int .i64 (↑t_0n:Int)) (.nS t_0p t_0n t_0c (.np 2 0 (.np 5 0 (.nU (.nU (.nU (.nU (.nU (.nU (.nU (.nb (!b_1) (.nb (!b_1) (.nd (.int .i64 (↑n_4:Int)) (.loadS ((a.add (n.toNat * 1)).add 0) fun p_5 n_9 c_5 => .ne (.slice p_5 n_9 c_5) (.slice p n_4 c) (.nd (.pointer (some ((a.add (n.toNat * 1)).add 0))) (.need (0 <= n /\ n < (↑t_0n:Int)) (.someA t_0p fun a_5 => .ne (.pointer (some (a_5.add (n.toNat * 1)))) (.pointer (some (a.add (n.toNat * 1)))) (.nd n (.np 5 0 (.nS t_0p t_0n t_0c (.np 2 0 (.np 5 1 (.nb (!b) (.nd (.int .i64 (↑t_0n:Int)) (.nS t_0p t_0n t_0c (.np 2 0 (.np 5 0 (.rn [.int .i64 6])))))))))))))))))))))))))))))))))))))))))))))))))))))))))))))))))))))))))))))))))))))))))))))))))) else .need (0 <= n /\ n < (↑t_0n:Int)) (.someA t_0p fun a_2 => .loadS ((a_2.add (n.toNat * 1)).add 0) fun p_2 n_6 c_2 => .cB 50 #[n_2,.int .i64 0,.int .i64 (wrap .i64 ((↑n_6:Int) - 1))] fun b_2 => .nd (.int .i64 (↑n_6:Int)) (.loadS ((a_2.add (n.toNat * 1)).add 0) fun p_3 n_7 c_3 => .ne (.slice p_3 n_7 c_3) (.slice p_2 n_6 c_2) (.nd (.pointer (some ((a_2.add (n.toNat * 1)).add 0))) (.need (0 <= n /\ n < (↑t_0n:Int)) (.someA t_0p fun a_3 => .ne (.pointer (some (a_3.add (n.toNat * 1)))) (.pointer (some (a_2.add (n.toNat * 1)))) (.nd n (.np 5 0 (.nS t_0p t_0n t_0c (.np 2 0 (.np 5 2 (.nb (!b_1) (.nb (!b_1) (.nd (.int .i64 (↑n_4:Int)) (.loadS ((a.add (n.toNat * 1)).add 0) fun p_4 n_8 c_4 => .ne (.slice p_4 n_8 c_4) (.slice p n_4 c) (.nd (.pointer (some ((a.add (n.toNat * 1)).add 0))) (.need (0 <= n /\ n < (↑t_0n:Int)) (.someA t_0p fun a_4 => .ne (.pointer (some (a_4.add (n.toNat * 1)))) (.pointer (some (a.add (n.toNat * 1)))) (.nd n (.np 5 0 (.nS t_0p t_0n t_0c (.np 2 0 (.np 5 1 (.nb (!b) (.nd (.int .i64 (↑t_0n:Int)) (.nS t_0p t_0n t_0c (.np 2 0 (.np 5 0 (bif !b_2 then .rn [.int .i64 6] else .ag [.int .i64 0]))))))))))))))))))))))))))))))))))))))))))))))))) (fun vs => .pi vs fun n_4 vs => .unNil vs (bif decide (n_1 >= n_2) then .rt (.int .i64 7) else .cB 50 #[n_3,.int .i64 1,.int .i64 5] fun b => bif !b then .rt (.int .i64 1) else .loop [n_4,.int .i64 0] (fun vs => .pi vs fun n_5 vs => .pi vs fun n_6 vs => .unNil vs (bif decide (n_6 < i) then .need (0 <= n_6 /\ n_6 < (↑t_2n:Int)) (.someA t_2p fun a => .li ((a.add (n_6.toNat * 4)).add 0) fun n_7 => bif n_7 == n then .need (0 <= n_6 /\ n_6 < (↑t_2n:Int)) (.someA t_2p fun a_1 => .li ((a_1.add (n_6.toNat * 4)).add 1) fun n_8 => bif n_8 == n_1 then .need (0 <= n_6 /\ n_6 < (↑t_2n:Int)) (.someA t_2p fun a => .li ((a.add (n_6.toNat * 4)).add 2) fun n => bif n == n_2 then .rn [.int .i64 5,.int .i64 n_6] else .ag [n_5,.int .i64 (wrap .i64 (n_6 + 1))]) else .nU (.nU (.nU (.nU (.nU (.nU (.nb (n_8 == n_1) (.nb (n_8 == n_1) (.nd n_1 (.np 5 1 (.li ((a_1.add (n_6.toNat * 4)).add 1) fun n_9 => .ne n_9 n_8 (.nd (.pointer (some ((a_1.add (n_6.toNat * 4)).add 1))) (.need (0 <= n_6 /\ n_6 < (↑t_2n:Int)) (.someA t_2p fun a_2 => .ne (.pointer (some (a_2.add (n_6.toNat * 4)))) (.pointer (some (a_1.add (n_6.toNat * 4)))) (.nd n_6 (.nS t_2p t_2n t_2c (.np 2 2 (.nf (n_7 == n) true (.nb (n_7 == n) (.nd n (.np 5 0 (.li ((a.add (n_6.toNat * 4)).add 0) fun n => .ne n n_7 (.nd (.pointer (some ((a.add (n_6.toNat * 4)).add 0))) (.need (0 <= n_6 /\ n_6 < (↑t_2n:Int)) (.someA t_2p fun a_3 => .ne (.pointer (some (a_3.add (n_6.toNat * 4)))) (.pointer (some (a.add (n_6.toNat * 4)))) (.nd n_6 (.nS t_2p t_2n t_2c (.np 2 2 (.ag [n_5,.int .i64 (wrap .i64 (n_6 + 1))]))))))))))))))))))))))))))))) else .nU (.nU (.nU (.nU (.nU (.nU (.nb (n_7 == n) (.nd n (.np 5 0 (.li ((a.add (n_6.toNat * 4)).add 0) fun n_8 => .ne n_8 n_7 (.nd (.pointer (some ((a.add (n_6.toNat * 4)).add 0))) (.need (0 <= n_6 /\ n_6 < (↑t_2n:Int)) (.someA t_2p fun a_1 => .ne (.pointer (some (a_1.add (n_6.toNat * 4)))) (.pointer (some (a.add (n_6.toNat * 4)))) (.nd n_6 (.nS t_2p t_2n t_2c (.np 2 2 (.nU (.nU (.nU (.nU (.nU (.nU (.nd false (.nU (.nU (.nU (.nU (.nU (.nU (.nb (n_7 == n) (.nd n (.np 5 0 (.li ((a.add (n_6.toNat * 4)).add 0) fun n => .ne n n_7 (.nd (.pointer (some ((a.add (n_6.toNat * 4)).add 0))) (.need (0 <= n_6 /\ n_6 < (↑t_2n:Int)) (.someA t_2p fun a_2 => .ne (.pointer (some (a_2.add (n_6.toNat * 4)))) (.pointer (some (a.add (n_6.toNat * 4)))) (.nd n_6 (.nS t_2p t_2n t_2c (.np 2 2 (.ag [n_5,.int .i64 (wrap .i64 (n_6 + 1))])))))))))))))))))))))))))))))))))))))))) else .bk [n_5,.int .i64 n_6])) (fun vs => .pi vs fun n vs => .pi vs fun n vs => .unNil vs (.rt (.int .i64 0))) (fun vs => .pi vs fun n vs => .pi vs fun n_5 vs => .unNil vs (.rt (.int .i64 n))) fun x x_1 => .fail)) (fun vs => .pi vs fun n vs => .unNil vs (.rt (.int .i64 n))) fun x x_1 => .fail)
theorem w3167 (t_0p:Option Addr) (t_0n t_0c:Nat) (t_1p:Option Addr) (t_1n t_1c:Nat) (t_2p:Option Addr) (t_2n t_2c:Nat) (i:Int):FX X 57 #[.agg #[.slice t_0p t_0n t_0c,.slice t_1p t_1n t_1c,.slice t_2p t_2n t_2c],.int .i64 i] h A (n3167 t_0p t_0n t_0c t_1p t_1n t_1c t_2p t_2n t_2c i) := fk [2,5] [⟨0,[(4,.int .i64),(6,.int .i64)],[2,5],[],[],[]⟩] [⟨4,[(4,.int .i64)],[2,5],[],[],[]⟩] Tryz.f57
def n3168 (t_0p:Option Addr) (t_0n t_0c:Nat) (t_1p:Option Addr) (t_1n t_1c:Nat) (t_2p:Option Addr) (t_2n t_2c:Nat) (edition n:Int):T := .cl 207 #[.agg #[.slice t_0p t_0n t_0c,.slice t_1p t_1n t_1c,.slice t_2p t_2n t_2c],.int .i64 edition] fun v => .unS v fun a n_1 c => .cB 122 #[n,.int .i64 0,.int .i64 (wrap .i64 ((↑n_1:Int) - 1))] fun b => .rt (.bool b)
theorem w3168 (t_0p:Option Addr) (t_0n t_0c:Nat) (t_1p:Option Addr) (t_1n t_1c:Nat) (t_2p:Option Addr) (t_2n t_2c:Nat) (edition n:Int):FX X 187 #[.agg #[.slice t_0p t_0n t_0c,.slice t_1p t_1n t_1c,.slice t_2p t_2n t_2c],.int .i64 edition,.int .i64 n] h A (n3168 t_0p t_0n t_0c t_1p t_1n t_1c t_2p t_2n t_2c edition n) := fk [3] [] [] Tryz.f187
def n3180 (t_0p:Option Addr) (t_0n t_0c:Nat) (t_1p:Option Addr) (t_1n t_1c:Nat) (t_2p:Option Addr) (t_2n t_2c:Nat):T := .cB 122 #[.int .i64 (↑t_0n:Int),.int .i64 1,.int .i64 3] fun b => bif !b then .rt (.int .i64 2) else .sem false (Instr.makeMap 295 none) fun v => .unM v fun a => .loop [.int .i64 0,.int .i64 0] (fun vs => .pi vs fun n vs => .pi vs fun n_1 vs => .unNil vs (bif decide (n_1 < (↑t_0n:Int)) then .need (0 <= n_1 /\ n_1 < (↑t_0n:Int)) (.someA t_0p fun a_1 => .loadS ((a_1.add (n_1.toNat * 1)).add 0) fun p n_2 c => bif decide ((↑n_2:Int) > 8) then .rn [.int .i64 2,.int .i64 n_1] else .loop [n,.int .i64 0] (fun vs => .pi vs fun n vs => .pi vs fun n_3 vs => .unNil vs (bif decide (n_3 < (↑n_2:Int)) then .need (0 <= n_3 /\ n_3 < (↑n_2:Int)) (.someA p fun a_2 => .loadStr ((a_2.add (n_3.toNat * 2)).add 0) fun s => .li ((a_2.add (n_3.toNat * 2)).add 1) fun n_4 => .cB 206 #[.string s] fun b => bif !b then .rn [.int .i64 4,.int .i64 n_3] else .sem false (Instr.lookup 295 (.map a) (.agg #[n_1,.string s]) false) fun v => .unB v fun b => bif b then .rn [.int .i64 5,.int .i64 n_3] else .cB 122 #[n_4,.int .i64 1,.int .i64 45] fun b => bif !b then .rn [.int .i64 1,.int .i64 n_3] else .sem false (Sem.bind (Instr.mapUpdate 295 (.map a) (.agg #[n_1,.string s]) (.bool true)) fun __r => pure (.tuple #[])) fun x => .ag [n,.int .i64 (wrap .i64 (n_3 + 1))]) else .bk [n,.int .i64 n_3])) (fun vs => .pi vs fun n vs => .pi vs fun n_3 vs => .unNil vs (.ag [n,.int .i64 (wrap .i64 (n_1 + 1))])) (fun vs => .pi vs fun n vs => .pi vs fun n_3 vs => .unNil vs (.rn [n,.int .i64 n_1])) fun x x_1 => .fail) else .bk [n,.int .i64 n_1])) (fun vs => .pi vs fun n vs => .pi vs fun n vs => .unNil vs (.rt (.int .i64 0))) (fun vs => .pi vs fun n vs => .pi vs fun n_1 vs => .unNil vs (.rt (.int .i64 n))) fun x x_1 => .fail
theorem w3180 (t_0p:Option Addr) (t_0n t_0c:Nat) (t_1p:Option Addr) (t_1n t_1c:Nat) (t_2p:Option Addr) (t_2n t_2c:Nat):FX X 184 #[.agg #[.slice t_0p t_0n t_0c,.slice t_1p t_1n t_1c,.slice t_2p t_2n t_2c]] h A (n3180 t_0p t_0n t_0c t_1p t_1n t_1c t_2p t_2n t_2c) := fk [1,5,7,8] [⟨2,[(2,.int .i64),(32,.int .i64)],[1,5],[],[],[]⟩,⟨0,[(2,.int .i64),(20,.int .i64)],[1],[],[],[]⟩] [] Tryz.f184
def n3181 (t_0p:Option Addr) (t_0n t_0c:Nat) (t_1p:Option Addr) (t_1n t_1c:Nat) (t_2p:Option Addr) (t_2n t_2c:Nat):T := bif decide ((↑t_1n:Int) > 16) then .rt (.int .i64 2) else .sem false (Instr.makeMap 298 none) fun v => .unM v fun a => .loop [.int .i64 0,.int .i64 0] (fun vs => .pi vs fun n vs => .pi vs fun n_1 vs => .unNil vs (bif decide (n_1 < (↑t_1n:Int)) then .need (0 <= n_1 /\ n_1 < (↑t_1n:Int)) (.someA t_1p fun a_1 => .li ((a_1.add (n_1.toNat * 3)).add 0) fun n_2 => .li ((a_1.add (n_1.toNat * 3)).add 1) fun n_3 => .li ((a_1.add (n_1.toNat * 3)).add 2) fun n_4 => .cB 147 #[.agg #[.slice t_0p t_0n t_0c,.slice t_1p t_1n t_1c,.slice t_2p t_2n t_2c],.int .i64 n_2] fun b => bif !b then .rn [.int .i64 6,.int .i64 n_1] else .cB 147 #[.agg #[.slice t_0p t_0n t_0c,.slice t_1p t_1n t_1c,.slice t_2p t_2n t_2c],.int .i64 (wrap .i64 (n_2 + 1))] fun b => bif !b then .rn [.int .i64 6,.int .i64 n_1] else .cB 187 #[.agg #[.slice t_0p t_0n t_0c,.slice t_1p t_1n t_1c,.slice t_2p t_2n t_2c],.int .i64 n_2,.int .i64 n_3] fun b => bif !b then .rn [.int .i64 6,.int .i64 n_1] else .cB 187 #[.agg #[.slice t_0p t_0n t_0c,.slice t_1p t_1n t_1c,.slice t_2p t_2n t_2c],.int .i64 (wrap .i64 (n_2 + 1)),.int .i64 n_4] fun b => bif !b then .rn [.int .i64 6,.int .i64 n_1] else .sem false (Instr.lookup 298 (.map a) (.agg #[n_2,.int .i64 n_3,.int .i64 n_4]) false) fun v => .unB v fun b => bif b then .rn [.int .i64 5,.int .i64 n_1] else .sem false (Sem.bind (Instr.mapUpdate 298 (.map a) (.agg #[n_2,.int .i64 n_3,.int .i64 n_4]) (.bool true)) fun __r => pure (.tuple #[])) fun x => .ag [n,.int .i64 (wrap .i64 (n_1 + 1))]) else .bk [n,.int .i64 n_1])) (fun vs => .pi vs fun n vs => .pi vs fun n vs => .unNil vs (.rt (.int .i64 0))) (fun vs => .pi vs fun n vs => .pi vs fun n_1 vs => .unNil vs (.rt (.int .i64 n))) fun x x_1 => .fail
theorem w3181 (t_0p:Option Addr) (t_0n t_0c:Nat) (t_1p:Option Addr) (t_1n t_1c:Nat) (t_2p:Option Addr) (t_2n t_2c:Nat):FX X 185 #[.agg #[.slice t_0p t_0n t_0c,.slice t_1p t_1n t_1c,.slice t_2p t_2n t_2c]] h A (n3181 t_0p t_0n t_0c t_1p t_1n t_1c t_2p t_2n t_2c) := fk [1,5] [⟨0,[(2,.int .i64),(16,.int .i64)],[1],[],[],[]⟩] [] Tryz.f185
def n3182 (t_0p:Option Addr) (t_0n t_0c:Nat) (t_1p:Option Addr) (t_1n t_1c:Nat) (t_2p:Option Addr) (t_2n t_2c:Nat):T := bif decide ((↑t_2n:Int) > 10) then .rt (.int .i64 2) else .sem false (Instr.makeMap 299 none) fun v => .unM v fun a => .loop [.int .i64 0,.int .i64 0] (fun vs => .pi vs fun n vs => .pi vs fun n_1 vs => .unNil vs (bif decide (n_1 < (↑t_2n:Int)) then .need (0 <= n_1 /\ n_1 < (↑t_2n:Int)) (.someA t_2p fun a_1 => .li ((a_1.add (n_1.toNat * 4)).add 0) fun n_2 => .li ((a_1.add (n_1.toNat * 4)).add 1) fun n_3 => .li ((a_1.add (n_1.toNat * 4)).add 2) fun n_4 => .li ((a_1.add (n_1.toNat * 4)).add 3) fun n_5 => .blk (.cB 147 #[.agg #[.slice t_0p t_0n t_0c,.slice t_1p t_1n t_1c,.slice t_2p t_2n t_2c],.int .i64 n_2] fun b => bif !b then .ag [true] else .cB 187 #[.agg #[.slice t_0p t_0n t_0c,.slice t_1p t_1n t_1c,.slice t_2p t_2n t_2c],.int .i64 n_2,.int .i64 n_3] fun b => bif !b then .ag [true] else .cB 187 #[.agg #[.slice t_0p t_0n t_0c,.slice t_1p t_1n t_1c,.slice t_2p t_2n t_2c],.int .i64 n_2,.int .i64 n_4] fun b => .ag [.bool !b]) (fun vs => .popB vs fun b vs => .unNil vs (bif b then .rn [.int .i64 6,.int .i64 n_1] else bif decide (n_3 >= n_4) then .rn [.int .i64 7,.int .i64 n_1] else .cB 122 #[n_5,.int .i64 1,.int .i64 5] fun b => bif !b then .rn [.int .i64 1,.int .i64 n_1] else .sem false (Instr.lookup 299 (.map a) (.agg #[n_2,.int .i64 n_3,.int .i64 n_4,.int .i64 0]) false) fun v => .unB v fun b => bif b then .rn [.int .i64 5,.int .i64 n_1] else .sem false (Sem.bind (Instr.mapUpdate 299 (.map a) (.agg #[n_2,.int .i64 n_3,.int .i64 n_4,.int .i64 0]) (.bool true)) fun __r => pure (.tuple #[])) fun x => .ag [n,.int .i64 (wrap .i64 (n_1 + 1))])) (fun vs => .popB vs fun b vs => .unNil vs (.rn [n,.int .i64 n_1])) fun x x_1 => .fail) else .bk [n,.int .i64 n_1])) (fun vs => .pi vs fun n vs => .pi vs fun n vs => .unNil vs (.rt (.int .i64 0))) (fun vs => .pi vs fun n vs => .pi vs fun n_1 vs => .unNil vs (.rt (.int .i64 n))) fun x x_1 => .fail
theorem w3182 (t_0p:Option Addr) (t_0n t_0c:Nat) (t_1p:Option Addr) (t_1n t_1c:Nat) (t_2p:Option Addr) (t_2n t_2c:Nat):FX X 186 #[.agg #[.slice t_0p t_0n t_0c,.slice t_1p t_1n t_1c,.slice t_2p t_2n t_2c]] h A (n3182 t_0p t_0n t_0c t_1p t_1n t_1c t_2p t_2n t_2c) := fk [1,5,6] [⟨0,[(2,.int .i64),(17,.int .i64)],[1],[],[],[]⟩] [⟨2000023,[(23,.bool)],[1,5,6],[],[],[]⟩] Tryz.f186
def n3183 (n first last:Int):T := bif decide (first <= n) then .rt (.bool (decide (n <= last))) else .rt (.bool false)
theorem w3183 (n first last:Int):FX X 122 #[n,.int .i64 first,.int .i64 last] h A (n3183 n first last) := fk [] [] [] Tryz.f122
def n3194 (t_0p:Option Addr) (t_0n t_0c:Nat) (t_1p:Option Addr) (t_1n t_1c:Nat) (t_2p:Option Addr) (t_2n t_2c:Nat) (edition:Int):T := .cB 122 #[edition,.int .i64 0,.int .i64 (wrap .i64 ((↑t_0n:Int) - 1))] fun b => bif !b then .rt (.slice none 0 0) else .need (0 <= edition /\ edition < (↑t_0n:Int)) (.someA t_0p fun a => .loadS ((a.add (edition.toNat * 1)).add 0) fun p n c => .rt (.slice p n c))
theorem w3194 (t_0p:Option Addr) (t_0n t_0c:Nat) (t_1p:Option Addr) (t_1n t_1c:Nat) (t_2p:Option Addr) (t_2n t_2c:Nat) (edition:Int):FX X 207 #[.agg #[.slice t_0p t_0n t_0c,.slice t_1p t_1n t_1c,.slice t_2p t_2n t_2c],.int .i64 edition] h A (n3194 t_0p t_0n t_0c t_1p t_1n t_1c t_2p t_2n t_2c edition) := fk [2] [] [] Tryz.f207
def n3208 (s:ByteArray):T := .sem false (Builtin.len_ #[9] 3 #[.string s]) fun v => .ui v fun n => .cB 122 #[n,.int .i64 1,.int .i64 10] fun b => bif !b then .rt (.bool false) else .sem false (Instr.index 9 (.string s) (.int .i64 0)) fun v => .unI .u8 v fun n => bif decide (n < 97) then .rt (.bool false) else .sem false (Instr.index 9 (.string s) (.int .i64 0)) fun v => .unI .u8 v fun n => bif decide (n > 122) then .rt (.bool false) else .sem false (convert 9 307 (.string s)) fun v => .unS v fun a n c => .cB 213 #[.slice a n c,.func (Fn.func 214) #[] #[]] fun b => .rt (.bool !b)
theorem w3208 (s:ByteArray):FX X 206 #[.string s] h A (n3208 s) := fk [] [] [] Tryz.f206
def n3239 (sp:Option Addr) (sn sc:Nat) (f:Value):T := .cI 216 #[.slice sp sn sc,f] fun n => .rt (.bool (decide (n >= 0)))
theorem w3239 (sp:Option Addr) (sn sc:Nat) (f:Value):FX X 213 #[.slice sp sn sc,f] h A (n3239 sp sn sc f) := fk [] [] [] Tryz.f213
def n3240 (c:Int):T := bif decide (c < 97) then bif decide (c < 48) then .rt (.bool true) else .rt (.bool (decide (c > 57))) else bif decide (c > 122) then bif decide (c < 48) then .rt (.bool true) else .rt (.bool (decide (c > 57))) else .rt (.bool false)
theorem w3240 (c:Int):FX X 214 #[.int .u8 c] h A (n3240 c) := fk [] [] [] Tryz.f214
def n3247 (sp:Option Addr) (sn sc:Nat) (f:Value):T := .loop [.int .i64 0,.int .i64 0] (fun vs => .pi vs fun n vs => .pi vs fun n_1 vs => .unNil vs (bif decide (n_1 < (↑sn:Int)) then .need (0 <= n_1 /\ n_1 < (↑sn:Int)) (.someA sp fun a => .loadI .u8 (a.add (n_1.toNat * 1)) fun n_2 => .callv false f #[.int .u8 n_2] fun v => .unB v fun b => bif b then .rn [n_1,.int .i64 n_1] else .ag [n,.int .i64 (wrap .i64 (n_1 + 1))]) else .bk [n,.int .i64 n_1])) (fun vs => .pi vs fun n vs => .pi vs fun n vs => .unNil vs (.rt (.int .i64 (-1)))) (fun vs => .pi vs fun n vs => .pi vs fun n_1 vs => .unNil vs (.rt (.int .i64 n))) fun x x_1 => .fail
theorem w3247 (sp:Option Addr) (sn sc:Nat) (f:Value):FX X 216 #[.slice sp sn sc,f] h A (n3247 sp sn sc f) := fk [] [⟨0,[(4,.int .i64),(8,.int .i64)],[],[],[],[]⟩] [] Tryz.f216
end
section
open Go Go.TM Go.Proofs
attribute [local irreducible] T.wp CV FWK
theorem und9:Tryz.prog.underlying 9 = some .string := by kernel_rfl
theorem und1275:Tryz.prog.underlying 307 = some (.slice 5) := by kernel_rfl
theorem undU8:Tryz.prog.underlying 5 = some (.int .u8) := by kernel_rfl
theorem c3183 {h:LH} (n a b:Int):Pu Tryz.prog 122 #[.int .i64 n,.int .i64 a,.int .i64 b] h (.bool (isIn n a b)) := by
 refine w3183 _ _ _ X0_ok ?_;unfold n3183;refine t_if (fun e => ?_) (fun e => ?_) <;> refine t_ret ⟨?_,rfl⟩ <;> simp [isIn,e]
theorem c3161 {h:LH} {f:TabC} {t:GTab} (hr:TabR h.get f t) (n:Int):Pu Tryz.prog 147 #[tabV f,.int .i64 n] h (.bool (isIn n 0 ((t.eds.length:Int) - 1))) := by
 refine w3161 _ _ _ _ _ _ _ _ _ _ X0_ok ?_;unfold n3161;have hn := hr.eds.1;have hb := hr.eds.2.1;rw [wrap_id (n := (f.n0:Int) - 1) (by omega) (by omega),hn];refine t_pu (c3183 _ _ _) ?_;refine gZ ?_;exact t_ret ⟨rfl,rfl⟩
def itemsIn (t:GTab) (e:Int):List GItem := if isIn e 0 ((t.eds.length:Int) - 1) then t.items e else []
theorem c3194 {h:LH} {f:TabC} {t:GTab} (hr:TabR h.get f t) (e:Int):FW X0 Tryz.prog 207 #[tabV f,.int .i64 e] h fun r h' => h = h' /\ ∃ p n c,r = .slice p n c /\ Sl ItemE 2 h.get p n (itemsIn t e) := by
 refine w3194 _ _ _ _ _ _ _ _ _ _ X0_ok ?_;unfold n3194;have hn := hr.eds.1;have hb := hr.eds.2.1;rw [wrap_id (n := (f.n0:Int) - 1) (by omega) (by omega),hn];refine t_pu (c3183 _ _ _) ?_;refine gZ ?_;refine t_cond (fun b => ?_) (fun b => ?_)
 ·have b':isIn e 0 ((t.eds.length:Int) - 1) = false := by simpa using b
  refine t_ret ⟨rfl,none,0,0,rfl,?_⟩;unfold itemsIn;rw [b'];exact Sl.nil
 ·have b':isIn e 0 ((t.eds.length:Int) - 1) = true := by simpa using b
  have hin:0 <= e /\ e < (t.eds.length:Int) := by
   unfold isIn at b';simp only [Bool.and_eq_true,decide_eq_true_eq] at b';omega
  obtain ⟨l,a,hl,ha,q,n,c,e1,e2⟩ := hr.eds.at (i := e.toNat) (by omega);refine gZ ?_;refine t_ret ⟨rfl,q,n,c,rfl,?_⟩;unfold itemsIn GTab.items;rw [if_pos b',List.getD_eq_getElem?_getD,hl];exact e2
theorem c3168 {h:LH} {f:TabC} {t:GTab} (hr:TabR h.get f t) (e n:Int):Pu Tryz.prog 187 #[tabV f,.int .i64 e,.int .i64 n] h (.bool (isIn n 0 (((itemsIn t e).length:Int) - 1))) := by
 refine w3168 _ _ _ _ _ _ _ _ _ _ _ X0_ok ?_;unfold n3168;refine t_call (FW.top (c3194 hr e)) ?_;rintro _ _ ⟨rfl,p,k,c,rfl,hs⟩;have hn := hs.1;have hb := hs.2.1;refine gZ ?_;rw [wrap_id (n := (k:Int) - 1) (by omega) (by omega),hn];refine t_pu (c3183 _ _ _) ?_;refine gZ ?_;exact t_ret ⟨rfl,rfl⟩
theorem item_is {t:GTab} {e n:Int}:isIn n 0 (((itemsIn t e).length:Int) - 1) = true ↔ itemB t e n := by
 unfold itemsIn itemB isIn;constructor
 ·intro hh;split at hh
  ·rename_i h1;simp only [Bool.and_eq_true,decide_eq_true_eq] at h1 hh;omega
  ·simp at hh; omega
 ·rintro ⟨h1,h2,h3,h4⟩;rw [if_pos (by simp; omega)];simp; omega
/-! ### Names -/
theorem letter_in (c:UInt8):isIn (c.toNat:Int) 97 122 = letterB c := by
 unfold isIn letterB;congr 1 <;> rw [decide_eq_decide] <;> omega
theorem digit_in (c:UInt8):isIn (c.toNat:Int) 48 57 = digitB c := by
 unfold isIn digitB;congr 1 <;> rw [decide_eq_decide] <;> omega
theorem byte_lt (c:UInt8):c.toNat < 256 := c.toNat_lt
theorem c3240 {h:LH} (c:UInt8):Pu Tryz.prog 214 #[.int .u8 (c.toNat:Int)] h (.bool (!(letterB c || digitB c))) := by
 refine w3240 _ X0_ok ?_;unfold n3240;unfold letterB digitB;refine t_if (fun e1 => ?_) (fun e1 => ?_)
 ·refine t_if (fun e2 => ?_) (fun e2 => ?_) <;> refine t_ret ⟨?_,rfl⟩
  ·have h1:¬ 97 <= c.toNat := by omega
   have h2:¬ 48 <= c.toNat := by omega
   simp [h1,h2]
  ·have h1:¬ 97 <= c.toNat := by omega
   have h2:48 <= c.toNat := by omega
   by_cases h3:c.toNat <= 57
   ·have:¬ (c.toNat:Int) > 57 := by omega
    simp [h1,h2,h3,this]
   ·have:(c.toNat:Int) > 57 := by omega
    simp [h1,h2,h3,this]
 ·have h1:97 <= c.toNat := by omega
  refine t_if (fun e2 => ?_) (fun e2 => ?_)
  ·refine t_if (fun e3 => by omega) (fun e3 => ?_);refine t_ret ⟨?_,rfl⟩;have h2:¬ c.toNat <= 122 := by omega
   have h3:¬ c.toNat <= 57 := by omega
   have:(c.toNat:Int) > 57 := by omega
   simp [h2,h3,this]
  ·refine t_ret ⟨?_,rfl⟩;have h2:c.toNat <= 122 := by omega
   simp [h1,h2]
theorem c3247 {h:LH} {p:Option Addr} {n c:Nat} {l:List UInt8} {fv:Value} {g:UInt8 -> Bool} (hl:Sl ByteE 1 h.get p n l) (hf:∀ x:UInt8,CV X0 Tryz.prog fv #[.int .u8 (x.toNat:Int)] h fun r h' => r = .bool (g x) /\ h' = h) :
  Pu Tryz.prog 216 #[.slice p n c,fv] h (.int .i64 (placeF g 0 l)) := by
 refine w3247 _ _ _ _ X0_ok ?_;unfold n3247;have hn := hl.1;have hb := hl.2.1;refine t_loop (fun m vs h' => h' = h /\ ∃ i:Nat,vs = [.int .i64 0,.int .i64 i] /\ i <= n /\ m = n - i /\ placeF g 0 l = placeF g i (l.drop i)) ⟨rfl,0,rfl,Nat.zero_le _,rfl,rfl⟩ ?_;rintro Y m vs _ hY ⟨rfl,i,rfl,hi,rfl,hc⟩;refine gZ ?_;refine t_if (fun e1 => ?_) (fun e1 => ?_)
 ·obtain ⟨x,a,hx,ha,e2⟩ := hl.at (i := i) (by omega);unfold ByteE at e2;refine gZ ?_;refine t_callv (hf x) ?_;rintro _ _ ⟨rfl,rfl⟩;refine gZ ?_;rw [drop_of hx,placeF] at hc;refine t_cond (fun e3 => ?_) (fun e3 => ?_)
  ·refine gZ ?_;refine t_ret ⟨?_,rfl⟩;rw [hc,if_pos e3]
  ·refine t_again (hY (n - (i + 1)) _ _ (by omega) ⟨rfl,i + 1,?_,by omega,rfl,?_⟩)
   ·rw [wrap_id (by omega) (by omega)]; rfl
   ·rw [hc,if_neg (by simp [e3])]
 ·refine gZ ?_;refine t_ret ⟨?_,rfl⟩;rw [hc,List.drop_eq_nil_of_le (by omega)]; rfl
theorem c3239 {h:LH} {p:Option Addr} {n c:Nat} {l:List UInt8} {fv:Value} {g:UInt8 -> Bool} (hl:Sl ByteE 1 h.get p n l) (hf:∀ x:UInt8,CV X0 Tryz.prog fv #[.int .u8 (x.toNat:Int)] h fun r h' => r = .bool (g x) /\ h' = h) :
  Pu Tryz.prog 213 #[.slice p n c,fv] h (.bool (l.any g)) := by
 refine w3239 _ _ _ _ X0_ok ?_;unfold n3239;refine t_pu (c3247 hl hf) ?_;refine gZ ?_;refine t_ret ⟨?_,rfl⟩;rw [placeF_ge]
theorem c3208 {h:LH} {s:ByteArray} (hs:NameOk s):Gr Tryz.prog 206 #[.string s] h fun r _ => r = .bool true := by
 refine w3208 _ X0_ok ?_;unfold n3208;have hsz := hs.size;have h0:0 < s.data.size := hsz.1;have hc := Array.getElem?_eq_getElem (xs := s.data) (i := 0) h0;generalize s.data[0] = c at hc;have hl:letterB c = true := (hs.all 0 c hc).resolve_right (fun hh => hh.2 rfl);unfold letterB at hl;simp only [Bool.and_eq_true,decide_eq_true_eq] at hl;refine t_lenStr und9 ?_;refine gZ ?_;refine t_pu (c3183 _ _ _) ?_;have e1:isIn (s.size:Int) 1 10 = true := by unfold isIn; simp; omega
 rw [e1];refine gZ ?_;refine t_cond (fun e => by cases e) (fun _ => ?_);refine t_indexS (i := 0) und9 hc ?_;refine gZ ?_;refine t_if (fun e => by omega) (fun _ => ?_);refine t_indexS (i := 0) und9 hc ?_;refine gZ ?_;refine t_if (fun e => by omega) (fun _ => ?_);refine t_bytes und9 und1275 undU8 (by omega) fun r cap h1 le1 hsl => ?_;refine gZ ?_;refine t_pu (c3239 hsl (g := fun c => !(letterB c || digitB c)) (fun x => ?_)) ?_
 ·exact CV.mono (cv_fw X0_ok (by rfl) (c3240 x)) (by rintro v h' ⟨rfl,rfl⟩; exact ⟨rfl,rfl⟩)
 have hany:(s.data.toList.any fun c => !(letterB c || digitB c)) = false := by
  rw [List.any_eq_false];intro c hc;obtain ⟨i,hi⟩ := List.mem_iff_getElem?.1 hc;rcases hs.all i c (by simpa using hi) with h1 | ⟨h1,_⟩ <;> simp [h1]
 rw [hany];refine gZ ?_;exact t_ret ⟨le1,rfl⟩
theorem c3140 {h:LH} (s:ByteArray):FW X0 Tryz.prog 95 #[.string s] h fun r h' => h = h' /\ ∃ b,r = .bool b /\ (b = true -> NameOk s) := by
 refine w3140 _ X0_ok ?_;unfold n3140;refine t_blk (fun vs h' => vs = [.bool false] /\ h = h' /\ 1 <= s.size /\ s.size <= 10) ?_ ?_
 ·refine t_lenStr und9 ?_;refine gZ ?_;refine t_cond (fun _ => ?_) (fun e1 => ?_)
  ·refine gI ?_;refine gZ ?_;exact t_ret ⟨rfl,false,rfl,fun e => by cases e⟩
  refine t_lenStr und9 ?_;refine gZ ?_;refine t_if (fun _ => ?_) (fun e2 => ?_)
  ·refine gI ?_;refine gZ ?_;exact t_ret ⟨rfl,false,rfl,fun e => by cases e⟩
  ·refine t_again ⟨rfl,rfl,?_,by omega⟩;have:¬ s.size = 0 := by simpa using e1
   omega
 rintro vs _ ⟨rfl,rfl,hs1,hs2⟩;refine gZ ?_;refine t_loop (fun mm vs h' => h = h' /\ ∃ i:Nat,vs = [.bool false,.int .i64 i] /\ i <= s.size /\ mm = s.size - i /\ ∀ (j:Nat) c,j < i -> s.data[j]? = some c -> letterB c = true \/ (digitB c = true /\ j ≠ 0)) ⟨rfl,0,rfl,Nat.zero_le _,rfl,fun j c hj => absurd hj (Nat.not_lt_zero _)⟩ ?_;rintro Y mm vs _ hY ⟨rfl,i,rfl,hi,rfl,hall⟩;refine gZ ?_;refine t_lenStr und9 ?_;refine gZ ?_;refine t_if (fun e1 => ?_) (fun e1 => ?_)
 ·have hlt:i < s.data.size := by show i < s.size; omega
  have hc := Array.getElem?_eq_getElem (xs := s.data) (i := i) hlt;generalize s.data[i] = c at hc;have hw:wrap .i64 (c.toNat:Int) = (c.toNat:Int) := wrap_id (by omega) (by have := byte_lt c; omega);have i1 := letter_in c;have i2 := digit_in c;have next:(letterB c = true \/ (digitB c = true /\ i ≠ 0)) -> Y [.bool false,.int .i64 (wrap .i64 ((i:Int) + 1))] h := fun hok => by
   refine hY (s.size - (i + 1)) _ _ (by omega) ⟨rfl,i + 1,?_,by omega,rfl,fun j c' hj hc' => ?_⟩
   ·rw [wrap_id (by omega) (by omega)]; rfl
   ·by_cases e:j = i
    ·subst e; rw [hc] at hc'; cases hc'; exact hok
    ·exact hall j c' (by omega) hc'
  refine t_blk (fun vs h' => vs = [.bool (letterB c),.bool (digitB c)] /\ h = h') ?_ ?_
  ·refine t_both ?_ ?_
   ·refine t_indexS und9 hc ?_;refine gZ ?_;refine t_both ?_ ?_
    ·rw [hw];refine t_pu (c49 _ _ _) ?_;rw [i1];refine gZ ?_;refine t_indexS und9 hc ?_;refine gZ ?_;rw [hw];refine t_pu (c49 _ _ _) ?_;rw [i2];refine gZ ?_;exact t_again ⟨rfl,rfl⟩
    ·refine t_indexS und9 hc ?_;refine gZ ?_;rw [hw];refine t_pu (c49 _ _ _) ?_;rw [i1];refine gZ ?_;refine t_pu (c49 _ _ _) ?_;rw [i2];refine gZ ?_;exact t_again ⟨rfl,rfl⟩
   ·refine t_indexS und9 hc ?_;refine gZ ?_;refine t_indexS und9 hc ?_;refine gZ ?_;rw [hw];refine t_pu (c49 _ _ _) ?_;rw [i1];refine gZ ?_;refine t_pu (c49 _ _ _) ?_;rw [i2];refine gZ ?_;exact t_again ⟨rfl,rfl⟩
  rintro vs _ ⟨rfl,rfl⟩;refine gZ ?_;refine t_cond (fun b1 => ?_) (fun b1 => ?_)
  ·refine t_cond (fun _ => ?_) (fun b2 => ?_)
   ·refine gI ?_;refine gZ ?_;exact t_ret ⟨rfl,false,rfl,fun e => by cases e⟩
   refine t_cond (fun _ => ?_) (fun b3 => ?_)
   ·refine gI ?_;refine gZ ?_;exact t_ret ⟨rfl,false,rfl,fun e => by cases e⟩
   ·refine t_again (next (.inr ⟨by simpa using b2,?_⟩));intro e0;subst e0;simp at b3
  ·exact t_again (next (.inl (by simpa using b1)))
 ·refine gZ ?_;refine t_ret ⟨rfl,true,rfl,fun _ => ⟨⟨hs1,hs2⟩,fun j c hc => hall j c ?_ hc⟩⟩;have:j < s.data.size := (Array.getElem?_eq_some_iff.1 hc).1;have h2:s.data.size = s.size := rfl;omega
end
section
open Go Go.TM Go.Proofs
attribute [local irreducible] T.wp CV FWK
theorem c3131 {h:LH} {f:TabC} {t:GTab} (hr:TabR h.get f t):FW X0 Tryz.prog 22 #[tabV f] h fun r h' => h = h' /\ ∃ b,r = .bool b := by
 refine w3131 _ _ _ _ _ _ _ _ _ X0_ok ?_;unfold n3131;have hn := hr.eds.1;have hb := hr.eds.2.1;refine t_blk (fun vs h' => vs = [.bool false] /\ h = h') ?_ ?_
 ·refine t_if (fun _ => ?_) (fun _ => ?_)
  ·refine gI ?_;refine gZ ?_;exact t_ret ⟨rfl,_,rfl⟩
  refine t_if (fun _ => ?_) (fun _ => ?_)
  ·refine gI ?_;refine gZ ?_;exact t_ret ⟨rfl,_,rfl⟩
  refine t_if (fun _ => ?_) (fun _ => ?_)
  ·refine gI ?_;refine gZ ?_;exact t_ret ⟨rfl,_,rfl⟩
  ·exact t_again ⟨rfl,rfl⟩
 rintro vs _ ⟨rfl,rfl⟩;refine gZ ?_;refine t_loop (fun mm vs h' => h = h' /\ ∃ i:Nat,vs = [.bool false,.int .i64 i] /\ i <= f.n0 /\ mm = f.n0 - i) ⟨rfl,0,rfl,Nat.zero_le _,rfl⟩ ?_;rintro Y mm vs _ hY ⟨rfl,i,rfl,hi,rfl⟩;refine gZ ?_;refine t_if (fun e1 => ?_) (fun e1 => ?_)
 ·obtain ⟨l,a,hl,ha,q,n,c,e2,e3⟩ := hr.eds.at (i := i) (by omega);have hq := e3.1;have hq2 := e3.2.1;have hin:0 <= (i:Int) /\ (i:Int) < (f.n0:Int) := by omega
  refine gZ ?_;refine t_if (fun _ => ?_) (fun _ => ?_)
  ·refine gI ?_;refine gZ ?_;exact t_ret ⟨rfl,_,rfl⟩
  refine t_loop (fun mm vs h' => h = h' /\ ∃ j:Nat,vs = [.bool false,.int .i64 j] /\ j <= n /\ mm = n - j) ⟨rfl,0,rfl,Nat.zero_le _,rfl⟩ ?_;rintro Y2 mm vs _ hY2 ⟨rfl,j,rfl,hj,rfl⟩;refine gZ ?_;refine t_if (fun e4 => ?_) (fun e4 => ?_)
  ·obtain ⟨x,b,hx,hb',g1,g2⟩ := e3.at (i := j) (by omega);have hjn:0 <= (j:Int) /\ (j:Int) < (n:Int) := by omega
   refine gZ ?_
   repeat ((first | refine t_loadStr (by assumption) ?_ | refine t_loadV (by assumption) ?_ | refine gL0 (by assumption) ?_); refine gZ ?_)
   refine t_lenStr und9 ?_;refine gZ ?_;refine t_if (fun _ => ?_) (fun _ => ?_)
   ·refine gI ?_;refine gZ ?_;exact t_ret ⟨rfl,_,rfl⟩
   ·refine t_again (hY2 (n - (j + 1)) _ _ (by omega) ⟨rfl,j + 1,?_,by omega,rfl⟩);rw [wrap_id (by omega) (by omega)]; rfl
  ·refine gZ ?_;refine t_again (hY (f.n0 - (i + 1)) _ _ (by omega) ⟨rfl,i + 1,?_,by omega,rfl⟩);rw [wrap_id (by omega) (by omega)]; rfl
 ·refine gZ ?_;exact t_ret ⟨rfl,_,rfl⟩
set_option maxRecDepth 10000 in
theorem c3165 {h:LH} {p:Option Addr} {n c:Nat} {l:List GItem} (hl:Sl ItemE 2 h.get p n l):FW X0 Tryz.prog 55 #[.agg #[.slice p n c]] h fun r h' => h = h' /\ ∃ g:Int,r = .int .i64 g /\ (g = 0 -> EdOk l) := by
 refine w3165 _ _ _ X0_ok ?_;unfold n3165;have hn := hl.1;have hb := hl.2.1;refine t_if (fun _ => t_ret ⟨rfl,2,rfl,fun e => by cases e⟩) (fun e8 => ?_);refine t_loop (fun mm vs h' => h = h' /\ ∃ i:Nat,vs = [.int .i64 0,.int .i64 i] /\ i <= n /\ mm = n - i /\ (∀ (j:Nat) x,j < i -> l[j]? = some x -> NameOk x.name /\ 1 <= x.cls /\ x.cls <= 45) /\ ∀ (j k:Nat) x y,j < k -> k < i -> l[j]? = some x -> l[k]? = some y -> x.name ≠ y.name)
  ⟨rfl,0,rfl,Nat.zero_le _,rfl,fun j x hj => absurd hj (Nat.not_lt_zero _),fun j k x y _ hk => absurd hk (Nat.not_lt_zero _)⟩ ?_
 rintro Y mm vs _ hY ⟨rfl,i,rfl,hi,rfl,hall,honce⟩;refine gZ ?_;refine t_if (fun e1 => ?_) (fun e1 => ?_)
 ·obtain ⟨x,a,hx,ha,g1,g2⟩ := hl.at (i := i) (by omega);have hin:0 <= (i:Int) /\ (i:Int) < (n:Int) := by omega
  refine gZ ?_
  repeat ((first | refine t_loadStr (by assumption) ?_ | refine t_loadV (by assumption) ?_ | refine gL0 (by assumption) ?_); refine gZ ?_)
  refine t_call (FW.top (c3140 x.name)) ?_;rintro _ _ ⟨rfl,b,rfl,hbn⟩;refine gZ ?_;refine t_cond (fun _ => ?_) (fun b1 => ?_)
  ·refine gI ?_;refine gZ ?_;exact t_ret ⟨rfl,4,rfl,fun e => by cases e⟩
  have hname := hbn (by simpa using b1);refine t_loop (fun mm vs h' => h = h' /\ ∃ k:Nat,vs = [.int .i64 0,.int .i64 k] /\ k <= i /\ mm = i - k /\ ∀ (j:Nat) y,j < k -> l[j]? = some y -> y.name ≠ x.name) ⟨rfl,0,rfl,Nat.zero_le _,rfl,fun j y hj => absurd hj (Nat.not_lt_zero _)⟩ ?_;rintro Y2 mm vs _ hY2 ⟨rfl,k,rfl,hk,rfl,hne⟩;refine gZ ?_;refine t_if (fun e2 => ?_) (fun e2 => ?_)
  ·obtain ⟨y,a',hy,ha',g3,g4⟩ := hl.at (i := k) (by omega);obtain rfl:a = a' := Option.some.inj (ha.symm.trans ha');have hkn:0 <= (k:Int) /\ (k:Int) < (n:Int) := by omega
   refine gZ ?_
   repeat ((first | refine t_loadStr (by assumption) ?_ | refine t_loadV (by assumption) ?_ | refine gL0 (by assumption) ?_); refine gZ ?_)
   refine t_eqStr und9 fun cb hcb => ?_;refine gZ ?_;refine t_cond (fun _ => ?_) (fun b2 => ?_)
   ·refine gI ?_;refine gZ ?_;exact t_ret ⟨rfl,5,rfl,fun e => by cases e⟩
   ·refine t_again (hY2 (i - (k + 1)) _ _ (by omega) ⟨rfl,k + 1,?_,by omega,rfl,fun j z hj hz => ?_⟩)
    ·rw [wrap_id (by omega) (by omega)]; rfl
    ·by_cases e:j = k
     ·subst e; rw [hy] at hz; cases hz;intro hh;rw [hcb.2 hh] at b2; cases b2
     ·exact hne j z (by omega) hz
  ·refine gZ ?_;refine t_pu (c49 _ _ _) ?_;refine gZ ?_;refine t_cond (fun _ => ?_) (fun b3 => ?_)
   ·refine gI ?_;refine gZ ?_;exact t_ret ⟨rfl,1,rfl,fun e => by cases e⟩
   ·have hcls:1 <= x.cls /\ x.cls <= 45 := by
     unfold isIn at b3;simpa using b3
    refine t_again (hY (n - (i + 1)) _ _ (by omega) ⟨rfl,i + 1,?_,by omega,rfl,fun j y hj hy => ?_,fun j k' y z hjk hk' hy hz => ?_⟩)
    ·rw [wrap_id (by omega) (by omega)]; rfl
    ·by_cases e:j = i
     ·subst e; rw [hx] at hy; cases hy; exact ⟨hname,hcls⟩
     ·exact hall j y (by omega) hy
    ·by_cases e:k' = i
     ·subst e; rw [hx] at hz; cases hz;exact hne j y (by omega) hy
     ·exact honce j k' y z hjk (by omega) hy hz
 ·refine gZ ?_;refine t_ret ⟨rfl,0,rfl,fun _ => ⟨by omega,fun x hx => ?_,fun x hx => ?_,fun j k x y hjk hx hy => ?_⟩⟩
  ·obtain ⟨j,hj⟩ := List.mem_iff_getElem?.1 hx;exact (hall j x (by have := (List.getElem?_eq_some_iff.1 hj).1; omega) hj).1
  ·obtain ⟨j,hj⟩ := List.mem_iff_getElem?.1 hx;exact (hall j x (by have := (List.getElem?_eq_some_iff.1 hj).1; omega) hj).2
  ·exact honce j k x y hjk (by have := (List.getElem?_eq_some_iff.1 hy).1; omega) hx hy
end
section
open Go Go.TM Go.Proofs
set_option linter.unusedVariables false
set_option maxRecDepth 100000
variable {X:XP} {h:LH} {A:Value -> LH -> Prop}
def n3108 (t_0p:Option Addr) (t_0n t_0c:Nat) (t_1p:Option Addr) (t_1n t_1c:Nat) (t_2p:Option Addr) (t_2n t_2c:Nat):T := .cB 22 #[.agg #[.slice t_0p t_0n t_0c,.slice t_1p t_1n t_1c,.slice t_2p t_2n t_2c]] fun b => bif !b then .cI 23 #[.agg #[.slice t_0p t_0n t_0c,.slice t_1p t_1n t_1c,.slice t_2p t_2n t_2c]] fun n => .rt (.bool (n == 0)) else .rt (.bool false)
theorem w3108 (t_0p:Option Addr) (t_0n t_0c:Nat) (t_1p:Option Addr) (t_1n t_1c:Nat) (t_2p:Option Addr) (t_2n t_2c:Nat):FX X 7 #[.agg #[.slice t_0p t_0n t_0c,.slice t_1p t_1n t_1c,.slice t_2p t_2n t_2c]] h A (n3108 t_0p t_0n t_0c t_1p t_1n t_1c t_2p t_2n t_2c) := fk [1] [] [] Tryz.f7
def n3109 (u_0 u_1 u_2 u_3:Int) (u_4p:Option Addr) (u_4n u_4c:Nat) (u_5p:Option Addr) (u_5n u_5c:Nat) (u_6p:Option Addr) (u_6n u_6c:Nat) (land day:Int) (t_0p:Option Addr) (t_0n t_0c:Nat) (t_1p:Option Addr) (t_1n t_1c:Nat) (t_2p:Option Addr) (t_2n t_2c:Nat) (edition:Int) (maybe:Bool):T := .cT 28 #[.agg #[u_0,.int .i64 u_1,.int .i64 u_2,.int .i64 u_3,.slice u_4p u_4n u_4c,.slice u_5p u_5n u_5c,.slice u_6p u_6n u_6c],.int .i64 land,.int .i64 day] fun v vs => .unS v fun a n c => .unCons vs fun v vs => .ui v fun n_1 => .unNil vs (.loop [.slice none 0 0,.int .i64 0] (fun vs => .popS vs fun a_1 n_2 c vs => .pi vs fun n_3 vs => .unNil vs (.blk (bif decide (n_3 < (↑n:Int)) then .need (0 <= edition /\ edition < (↑t_0n:Int)) (.someA t_0p fun a => .loadS ((a.add (edition.toNat * 1)).add 0) fun p n c => bif decide (n_3 < (↑n:Int)) then .ag [] else .leaf (.out 0 [])) else .leaf (.out 0 [])) (fun vs => .unNil vs (.need (0 <= n_3 /\ n_3 < (↑n:Int)) (.someA a fun a_2 => .li (a_2.add (n_3.toNat * 1)) fun n_4 => bif n_4 == 1 then .sem false (Instr.buildSlice 30 1 #[(0,.int .i64 n_3)]) fun v => .unS v fun a n c_1 => .sem false (Builtin.append_ #[30,30] 30 #[.slice a_1 n_2 c,.slice a n c_1]) fun v => .unS v fun a n c => .ag [.slice a n c,.int .i64 (wrap .i64 (n_3 + 1))] else bif maybe then .need (0 <= n_3 /\ n_3 < (↑n:Int)) (.someA a fun a => .li (a.add (n_3.toNat * 1)) fun n => bif n == 0 then .sem false (Instr.buildSlice 30 1 #[(0,.int .i64 n_3)]) fun v => .unS v fun a n c_1 => .sem false (Builtin.append_ #[30,30] 30 #[.slice a_1 n_2 c,.slice a n c_1]) fun v => .unS v fun a n c => .ag [.slice a n c,.int .i64 (wrap .i64 (n_3 + 1))] else .ag [.slice a_1 n_2 c,.int .i64 (wrap .i64 (n_3 + 1))]) else .ag [.slice a_1 n_2 c,.int .i64 (wrap .i64 (n_3 + 1))]))) (fun vs => .unNil vs (.rn [.slice a_1 n_2 c,.int .i64 n_3])) fun x x_1 => bif Nat.beq x 0 then .unNil x_1 (.bk [.slice a_1 n_2 c,.int .i64 n_3]) else .fail)) (fun vs => .popS vs fun a_1 n_2 c_1 vs => .pi vs fun n_3 vs => .unNil vs (bif n_1 == 0 then .nb ((↑n:Int) == u_0) (.nb ((↑n:Int) == u_0) (.nd u_0 (.np 6 0 (.nd (.int .i64 (↑n:Int)) (.nS a n c (.nb (n_1 == 0) (.nd n_1 (.rt (.tuple #[.slice a_1 n_2 c_1,.bool ((↑n:Int) == u_0)]))))))))) else .both (.nU (.nU (.nb (n_1 == 0) (.nd n_1 (.nS a_1 n_2 c_1 (.both (.nU (.nb (n_1 == 0) (.nd n_1 (.nS a_1 n_2 c_1 (.nd false (.nU (.nb (n_1 == 0) (.nd n_1 (.rt (.tuple #[.slice a_1 n_2 c_1,.bool false])))))))))) (.nU (.nU (.nb (n_1 == 0) (.nd n_1 (.nU (.nb (n_1 == 0) (.nd n_1 (.rt (.tuple #[.slice a_1 n_2 c_1,.bool false]))))))))))))))) (.nU (.nU (.nU (.nb (n_1 == 0) (.nd n_1 (.nU (.nU (.nb (n_1 == 0) (.nd n_1 (.nU (.nb (n_1 == 0) (.nd n_1 (.rt (.tuple #[.slice a_1 n_2 c_1,.bool false])))))))))))))))) (fun vs => .popS vs fun a n c vs => .pi vs fun n vs => .unNil vs (.rt (.tuple #[.slice none 0 0,.bool false]))) fun x x_1 => .fail)
theorem w3109 (u_0 u_1 u_2 u_3:Int) (u_4p:Option Addr) (u_4n u_4c:Nat) (u_5p:Option Addr) (u_5n u_5c:Nat) (u_6p:Option Addr) (u_6n u_6c:Nat) (land day:Int) (t_0p:Option Addr) (t_0n t_0c:Nat) (t_1p:Option Addr) (t_1n t_1c:Nat) (t_2p:Option Addr) (t_2n t_2c:Nat) (edition:Int) (maybe:Bool):FX X 36 #[.agg #[u_0,.int .i64 u_1,.int .i64 u_2,.int .i64 u_3,.slice u_4p u_4n u_4c,.slice u_5p u_5n u_5c,.slice u_6p u_6n u_6c],.int .i64 land,.int .i64 day,.agg #[.slice t_0p t_0n t_0c,.slice t_1p t_1n t_1c,.slice t_2p t_2n t_2c],.int .i64 edition,.bool maybe] h A (n3109 u_0 u_1 u_2 u_3 u_4p u_4n u_4c u_5p u_5n u_5c u_6p u_6n u_6c land day t_0p t_0n t_0c t_1p t_1n t_1c t_2p t_2n t_2c
  edition maybe) := fk [6,9] [⟨0,[(16,.slice),(17,.int .i64)],[6,9],[],[],[]⟩] [⟨6,[],[6,9],[0],[],[]⟩] Tryz.f36
def n3110 (u_0 u_1 u_2 u_3:Int) (u_4p:Option Addr) (u_4n u_4c:Nat) (u_5p:Option Addr) (u_5n u_5c:Nat) (u_6p:Option Addr) (u_6n u_6c:Nat) (p_0 p_1 p_2:Int) (p_3p:Option Addr) (p_3n p_3c:Nat):T := .blk (.both (.sem false (Instr.buildSlice 23 0 #[]) fun v => .unS v fun a n c => .nd (.agg #[p_0,.int .i64 p_1,.int .i64 p_2,.slice p_3p p_3n p_3c]) (.nS u_5p u_5n u_5c (.np 2 5 (.both (.sem false (Builtin.append_ #[23,23] 23 #[.slice a n c,.slice u_5p u_5n u_5c]) fun v => .unS v fun a n c => .nd (.agg #[p_0,.int .i64 p_1,.int .i64 p_2,.slice p_3p p_3n p_3c]) (.np 2 5 (.sem false (Instr.buildSlice 23 1 #[(0,.agg #[p_0,.int .i64 p_1,.int .i64 p_2,.slice p_3p p_3n p_3c])]) fun v => .unS v fun a_1 n_1 c_1 => .np 2 5 (.sem false (Builtin.append_ #[23,23] 23 #[.slice a n c,.slice a_1 n_1 c_1]) fun v => .unS v fun a n c => .np 2 5 (.ag [u_0,.int .i64 u_1,.int .i64 u_2,.int .i64 u_3,.slice u_4p u_4n u_4c,.slice a n c,.slice u_6p u_6n u_6c]))))) (.sem false (Instr.buildSlice 23 1 #[(0,.agg #[p_0,.int .i64 p_1,.int .i64 p_2,.slice p_3p p_3n p_3c])]) fun v => .unS v fun a_1 n_1 c_1 => .nS u_5p u_5n u_5c (.np 2 5 (.sem false (Builtin.append_ #[23,23] 23 #[.slice a n c,.slice u_5p u_5n u_5c]) fun v => .unS v fun a n c => .np 2 5 (.sem false (Builtin.append_ #[23,23] 23 #[.slice a n c,.slice a_1 n_1 c_1]) fun v => .unS v fun a n c => .np 2 5 (.ag [u_0,.int .i64 u_1,.int .i64 u_2,.int .i64 u_3,.slice u_4p u_4n u_4c,.slice a n c,.slice u_6p u_6n u_6c]))))))))) (.sem false (Instr.buildSlice 23 1 #[(0,.agg #[p_0,.int .i64 p_1,.int .i64 p_2,.slice p_3p p_3n p_3c])]) fun v => .unS v fun a n c => .nS u_5p u_5n u_5c (.np 2 5 (.sem false (Instr.buildSlice 23 0 #[]) fun v => .unS v fun a_1 n_1 c_1 => .nS u_5p u_5n u_5c (.np 2 5 (.sem false (Builtin.append_ #[23,23] 23 #[.slice a_1 n_1 c_1,.slice u_5p u_5n u_5c]) fun v => .unS v fun a_2 n_2 c_2 => .np 2 5 (.sem false (Builtin.append_ #[23,23] 23 #[.slice a_2 n_2 c_2,.slice a n c]) fun v => .unS v fun a n c => .np 2 5 (.ag [u_0,.int .i64 u_1,.int .i64 u_2,.int .i64 u_3,.slice u_4p u_4n u_4c,.slice a n c,.slice u_6p u_6n u_6c])))))))) (fun vs => .pi vs fun n vs => .pi vs fun n_1 vs => .pi vs fun n_2 vs => .pi vs fun n_3 vs => .popS vs fun a n_4 c vs => .popS vs fun a_1 n_5 c_1 vs => .popS vs fun a_2 n_6 c_2 vs => .unNil vs (bif decide ((↑p_3n:Int) <= 20) then .cI 21 #[.agg #[n,.int .i64 n_1,.int .i64 n_2,.int .i64 n_3,.slice a n_4 c,.slice a_1 n_5 c_1,.slice a_2 n_6 c_2]] fun n_7 => .nb (decide ((↑p_3n:Int) <= 20)) (.nd (.int .i64 (↑p_3n:Int)) (.nS p_3p p_3n p_3c (.np 3 3 (.nd (.agg #[n,.int .i64 n_1,.int .i64 n_2,.int .i64 n_3,.slice a n_4 c,.slice a_1 n_5 c_1,.slice a_2 n_6 c_2]) (.nb (n_7 == 0) (.nb (n_7 == 0) (.nb (decide ((↑p_3n:Int) <= 20)) (.nd (.int .i64 (↑p_3n:Int)) (.nS p_3p p_3n p_3c (.np 3 3 (.rt (.tuple #[.agg #[n,.int .i64 n_1,.int .i64 n_2,.int .i64 n_3,.slice a n_4 c,.slice a_1 n_5 c_1,.slice a_2 n_6 c_2],.bool (n_7 == 0)])))))))))))) else .nb (decide ((↑p_3n:Int) <= 20)) (.nd (.int .i64 (↑p_3n:Int)) (.nS p_3p p_3n p_3c (.np 3 3 (.nd (.agg #[n,.int .i64 n_1,.int .i64 n_2,.int .i64 n_3,.slice a n_4 c,.slice a_1 n_5 c_1,.slice a_2 n_6 c_2]) (.both (.nb (decide ((↑p_3n:Int) <= 20)) (.nd (.int .i64 (↑p_3n:Int)) (.nS p_3p p_3n p_3c (.np 3 3 (.nd (.agg #[n,.int .i64 n_1,.int .i64 n_2,.int .i64 n_3,.slice a n_4 c,.slice a_1 n_5 c_1,.slice a_2 n_6 c_2]) (.nd false (.nb (decide ((↑p_3n:Int) <= 20)) (.nd (.int .i64 (↑p_3n:Int)) (.nS p_3p p_3n p_3c (.np 3 3 (.rt (.tuple #[.agg #[n,.int .i64 n_1,.int .i64 n_2,.int .i64 n_3,.slice a n_4 c,.slice a_1 n_5 c_1,.slice a_2 n_6 c_2],.bool false])))))))))))) (.nb (decide ((↑p_3n:Int) <= 20)) (.nd (.int .i64 (↑p_3n:Int)) (.nS p_3p p_3n p_3c (.np 3 3 (.nb (decide ((↑p_3n:Int) <= 20)) (.nd (.int .i64 (↑p_3n:Int)) (.nS p_3p p_3n p_3c (.np 3 3 (.rt (.tuple #[.agg #[n,.int .i64 n_1,.int .i64 n_2,.int .i64 n_3,.slice a n_4 c,.slice a_1 n_5 c_1,.slice a_2 n_6 c_2],.bool false]))))))))))))))))) (fun vs => .pi vs fun n vs => .pi vs fun n vs => .pi vs fun n vs => .pi vs fun n vs => .popS vs fun a n c vs => .popS vs fun a n c vs => .popS vs fun a n c vs => .unNil vs (.rt (.tuple #[.agg #[.int .i64 0,.int .i64 0,.int .i64 0,.int .i64 0,.slice none 0 0,.slice none 0 0,.slice none 0 0],.bool false]))) fun x x_1 => .fail
theorem w3110 (u_0 u_1 u_2 u_3:Int) (u_4p:Option Addr) (u_4n u_4c:Nat) (u_5p:Option Addr) (u_5n u_5c:Nat) (u_6p:Option Addr) (u_6n u_6c:Nat) (p_0 p_1 p_2:Int) (p_3p:Option Addr) (p_3n p_3c:Nat):FX X 12 #[.agg #[u_0,.int .i64 u_1,.int .i64 u_2,.int .i64 u_3,.slice u_4p u_4n u_4c,.slice u_5p u_5n u_5c,.slice u_6p u_6n u_6c],.agg #[p_0,.int .i64 p_1,.int .i64 p_2,.slice p_3p p_3n p_3c]] h A (n3110 u_0 u_1 u_2 u_3 u_4p u_4n u_4c u_5p u_5n u_5c u_6p u_6n u_6c p_0 p_1 p_2 p_3p p_3n p_3c) := fk [2,3,4,6] [] [⟨3,[(28672,.int .i64),(28673,.int .i64),(28674,.int .i64),(28675,.int .i64),(28676,.slice),(28677,.slice),(28678,.slice)],[2,3,4],[],[],[]⟩] Tryz.f12
def n3112 (u_0 u_1 u_2 u_3:Int) (u_4p:Option Addr) (u_4n u_4c:Nat) (u_5p:Option Addr) (u_5n u_5c:Nat) (u_6p:Option Addr) (u_6n u_6c:Nat) (r_0 r_1:Int) (r_2p:Option Addr) (r_2n r_2c:Nat):T := .blk (.both (.sem false (Instr.buildSlice 24 0 #[]) fun v => .unS v fun a n c => .nd (.agg #[r_0,.int .i64 r_1,.slice r_2p r_2n r_2c]) (.nS u_6p u_6n u_6c (.np 2 6 (.both (.sem false (Builtin.append_ #[24,24] 24 #[.slice a n c,.slice u_6p u_6n u_6c]) fun v => .unS v fun a n c => .nd (.agg #[r_0,.int .i64 r_1,.slice r_2p r_2n r_2c]) (.np 2 6 (.sem false (Instr.buildSlice 24 1 #[(0,.agg #[r_0,.int .i64 r_1,.slice r_2p r_2n r_2c])]) fun v => .unS v fun a_1 n_1 c_1 => .np 2 6 (.sem false (Builtin.append_ #[24,24] 24 #[.slice a n c,.slice a_1 n_1 c_1]) fun v => .unS v fun a n c => .np 2 6 (.ag [u_0,.int .i64 u_1,.int .i64 u_2,.int .i64 u_3,.slice u_4p u_4n u_4c,.slice u_5p u_5n u_5c,.slice a n c]))))) (.sem false (Instr.buildSlice 24 1 #[(0,.agg #[r_0,.int .i64 r_1,.slice r_2p r_2n r_2c])]) fun v => .unS v fun a_1 n_1 c_1 => .nS u_6p u_6n u_6c (.np 2 6 (.sem false (Builtin.append_ #[24,24] 24 #[.slice a n c,.slice u_6p u_6n u_6c]) fun v => .unS v fun a n c => .np 2 6 (.sem false (Builtin.append_ #[24,24] 24 #[.slice a n c,.slice a_1 n_1 c_1]) fun v => .unS v fun a n c => .np 2 6 (.ag [u_0,.int .i64 u_1,.int .i64 u_2,.int .i64 u_3,.slice u_4p u_4n u_4c,.slice u_5p u_5n u_5c,.slice a n c]))))))))) (.sem false (Instr.buildSlice 24 1 #[(0,.agg #[r_0,.int .i64 r_1,.slice r_2p r_2n r_2c])]) fun v => .unS v fun a n c => .nS u_6p u_6n u_6c (.np 2 6 (.sem false (Instr.buildSlice 24 0 #[]) fun v => .unS v fun a_1 n_1 c_1 => .nS u_6p u_6n u_6c (.np 2 6 (.sem false (Builtin.append_ #[24,24] 24 #[.slice a_1 n_1 c_1,.slice u_6p u_6n u_6c]) fun v => .unS v fun a_2 n_2 c_2 => .np 2 6 (.sem false (Builtin.append_ #[24,24] 24 #[.slice a_2 n_2 c_2,.slice a n c]) fun v => .unS v fun a n c => .np 2 6 (.ag [u_0,.int .i64 u_1,.int .i64 u_2,.int .i64 u_3,.slice u_4p u_4n u_4c,.slice u_5p u_5n u_5c,.slice a n c])))))))) (fun vs => .pi vs fun n vs => .pi vs fun n_1 vs => .pi vs fun n_2 vs => .pi vs fun n_3 vs => .popS vs fun a n_4 c vs => .popS vs fun a_1 n_5 c_1 vs => .popS vs fun a_2 n_6 c_2 vs => .unNil vs (bif decide ((↑r_2n:Int) <= 20) then .cI 21 #[.agg #[n,.int .i64 n_1,.int .i64 n_2,.int .i64 n_3,.slice a n_4 c,.slice a_1 n_5 c_1,.slice a_2 n_6 c_2]] fun n_7 => .nb (decide ((↑r_2n:Int) <= 20)) (.nd (.int .i64 (↑r_2n:Int)) (.nS r_2p r_2n r_2c (.np 3 2 (.nd (.agg #[n,.int .i64 n_1,.int .i64 n_2,.int .i64 n_3,.slice a n_4 c,.slice a_1 n_5 c_1,.slice a_2 n_6 c_2]) (.nb (n_7 == 0) (.nb (n_7 == 0) (.nb (decide ((↑r_2n:Int) <= 20)) (.nd (.int .i64 (↑r_2n:Int)) (.nS r_2p r_2n r_2c (.np 3 2 (.rt (.tuple #[.agg #[n,.int .i64 n_1,.int .i64 n_2,.int .i64 n_3,.slice a n_4 c,.slice a_1 n_5 c_1,.slice a_2 n_6 c_2],.bool (n_7 == 0)])))))))))))) else .nb (decide ((↑r_2n:Int) <= 20)) (.nd (.int .i64 (↑r_2n:Int)) (.nS r_2p r_2n r_2c (.np 3 2 (.nd (.agg #[n,.int .i64 n_1,.int .i64 n_2,.int .i64 n_3,.slice a n_4 c,.slice a_1 n_5 c_1,.slice a_2 n_6 c_2]) (.both (.nb (decide ((↑r_2n:Int) <= 20)) (.nd (.int .i64 (↑r_2n:Int)) (.nS r_2p r_2n r_2c (.np 3 2 (.nd (.agg #[n,.int .i64 n_1,.int .i64 n_2,.int .i64 n_3,.slice a n_4 c,.slice a_1 n_5 c_1,.slice a_2 n_6 c_2]) (.nd false (.nb (decide ((↑r_2n:Int) <= 20)) (.nd (.int .i64 (↑r_2n:Int)) (.nS r_2p r_2n r_2c (.np 3 2 (.rt (.tuple #[.agg #[n,.int .i64 n_1,.int .i64 n_2,.int .i64 n_3,.slice a n_4 c,.slice a_1 n_5 c_1,.slice a_2 n_6 c_2],.bool false])))))))))))) (.nb (decide ((↑r_2n:Int) <= 20)) (.nd (.int .i64 (↑r_2n:Int)) (.nS r_2p r_2n r_2c (.np 3 2 (.nb (decide ((↑r_2n:Int) <= 20)) (.nd (.int .i64 (↑r_2n:Int)) (.nS r_2p r_2n r_2c (.np 3 2 (.rt (.tuple #[.agg #[n,.int .i64 n_1,.int .i64 n_2,.int .i64 n_3,.slice a n_4 c,.slice a_1 n_5 c_1,.slice a_2 n_6 c_2],.bool false]))))))))))))))))) (fun vs => .pi vs fun n vs => .pi vs fun n vs => .pi vs fun n vs => .pi vs fun n vs => .popS vs fun a n c vs => .popS vs fun a n c vs => .popS vs fun a n c vs => .unNil vs (.rt (.tuple #[.agg #[.int .i64 0,.int .i64 0,.int .i64 0,.int .i64 0,.slice none 0 0,.slice none 0 0,.slice none 0 0],.bool false]))) fun x x_1 => .fail
theorem w3112 (u_0 u_1 u_2 u_3:Int) (u_4p:Option Addr) (u_4n u_4c:Nat) (u_5p:Option Addr) (u_5n u_5c:Nat) (u_6p:Option Addr) (u_6n u_6c:Nat) (r_0 r_1:Int) (r_2p:Option Addr) (r_2n r_2c:Nat):FX X 13 #[.agg #[u_0,.int .i64 u_1,.int .i64 u_2,.int .i64 u_3,.slice u_4p u_4n u_4c,.slice u_5p u_5n u_5c,.slice u_6p u_6n u_6c],.agg #[r_0,.int .i64 r_1,.slice r_2p r_2n r_2c]] h A (n3112 u_0 u_1 u_2 u_3 u_4p u_4n u_4c u_5p u_5n u_5c u_6p u_6n u_6c r_0 r_1 r_2p r_2n r_2c) := fk [2,3,4,6] [] [⟨3,[(28672,.int .i64),(28673,.int .i64),(28674,.int .i64),(28675,.int .i64),(28676,.slice),(28677,.slice),(28678,.slice)],[2,3,4],[],[],[]⟩] Tryz.f13
def n3122 (t_0p:Option Addr) (t_0n t_0c:Nat) (t_1p:Option Addr) (t_1n t_1c:Nat) (t_2p:Option Addr) (t_2n t_2c:Nat) (edition bits:Int):T := .loop [.slice none 0 0,.int .i64 0] (fun vs => .popS vs fun a n c vs => .pi vs fun n_1 vs => .unNil vs (.need (0 <= edition /\ edition < (↑t_0n:Int)) (.someA t_0p fun a_1 => .loadS ((a_1.add (edition.toNat * 1)).add 0) fun p n_2 c_1 => bif decide (n_1 < (↑n_2:Int)) then .need (0 <= n_1) (bif IntKind.wrap .u8 (↑(BitVec.toNat (BitVec.ofInt 8 (Int.fdiv bits (2 ^ min (n_1.toNat) 8)) &&& BitVec.ofInt 8 1)):Int) == 1 then .sem false (Instr.buildSlice 30 1 #[(0,.int .i64 n_1)]) fun v => .unS v fun a_2 n_3 c_2 => .sem false (Builtin.append_ #[30,30] 30 #[.slice a n c,.slice a_2 n_3 c_2]) fun v => .unS v fun a n c => .ag [.slice a n c,.int .i64 (wrap .i64 (n_1 + 1))] else .ag [.slice a n c,.int .i64 (wrap .i64 (n_1 + 1))]) else .bk [.slice a n c,.int .i64 n_1]))) (fun vs => .popS vs fun a n c vs => .pi vs fun n_1 vs => .unNil vs (.rt (.slice a n c))) (fun vs => .popS vs fun a n c vs => .pi vs fun n vs => .unNil vs (.rt (.slice none 0 0))) fun x x_1 => .fail
theorem w3122 (t_0p:Option Addr) (t_0n t_0c:Nat) (t_1p:Option Addr) (t_1n t_1c:Nat) (t_2p:Option Addr) (t_2n t_2c:Nat) (edition bits:Int):FX X 10 #[.agg #[.slice t_0p t_0n t_0c,.slice t_1p t_1n t_1c,.slice t_2p t_2n t_2c],.int .i64 edition,.int .u8 bits] h A (n3122 t_0p t_0n t_0c t_1p t_1n t_1c t_2p t_2n t_2c edition bits) := fk [3] [⟨0,[(7,.slice),(8,.int .i64)],[3],[],[],[]⟩] [] Tryz.f10
end
section
open Go Go.TM Go.Proofs
attribute [local irreducible] T.wp CV FWK
theorem flatMv (a b c:Int):FlatAgg Tryz.prog 176 [.int .i64 a,.int .i64 b,.int .i64 c] := flat_ints (vs := [a,b,c]) (by kernel_rfl)
theorem egMv:Tryz.prog.eqGuardType Tryz.prog.depth 176 = false := by kernel_rfl
theorem in_iff {n a b:Int}:isIn n a b = true ↔ a <= n /\ n <= b := by unfold isIn; simp
set_option maxRecDepth 10000 in
theorem c3166 {h:LH} {f:TabC} {t:GTab} (hr:TabR h.get f t) {i:Nat} (hi:i < f.n1):FW X0 Tryz.prog 56 #[tabV f,.int .i64 i] h fun r h' => h = h' /\ ∃ g:Int,r = .int .i64 g /\
  (g = 0 -> ∀ m,t.moves[i]? = some m -> (itemB t m.ed m.src /\ itemB t (m.ed + 1) m.dst) /\ ∀ (k:Nat) y,k < i -> t.moves[k]? = some y -> ¬ (y.ed = m.ed /\ y.src = m.src /\ y.dst = m.dst)) := by
 refine w3166 _ _ _ _ _ _ _ _ _ _ X0_ok ?_;unfold n3166;have hn0 := hr.eds.1;have hb0 := hr.eds.2.1;have hn1 := hr.moves.1;have hb1 := hr.moves.2.1;obtain ⟨m,a,hm,ha,g1,g2,g3⟩ := hr.moves.at (i := i) (by omega);have hin:0 <= (i:Int) /\ (i:Int) < (f.n1:Int) := by omega
 refine gZ ?_;have w2:wrap .i64 ((f.n0:Int) - 2) = (f.n0:Int) - 2 := wrap_id (by omega) (by omega);rw [w2];refine t_blk (fun vs h' => vs = [.int .i64 0] /\ h = h' /\ itemB t m.ed m.src /\ itemB t (m.ed + 1) m.dst) ?_ ?_
 ·refine t_pu (c49 _ _ _) ?_;refine gZ ?_;refine t_cond (fun _ => ?_) (fun e1 => ?_)
  ·refine gZ ?_;exact t_ret ⟨rfl,6,rfl,fun e => by cases e⟩
  have hed:0 <= m.ed /\ m.ed <= (f.n0:Int) - 2 := in_iff.1 (by simpa using e1);have hedn:0 <= m.ed /\ m.ed < (f.n0:Int) := by omega
  have ew:wrap .i64 (m.ed + 1) = m.ed + 1 := wrap_id (by omega) (by omega);rw [ew];have hed1:0 <= m.ed + 1 /\ m.ed + 1 < (f.n0:Int) := by omega
  obtain ⟨l,a0,hl,ha0,q,k,c,e2,e3⟩ := hr.eds.at (i := m.ed.toNat) (by omega);obtain ⟨l',a0',hl',ha0',q',k',c',e4,e5⟩ := hr.eds.at (i := (m.ed + 1).toNat) (by omega);obtain rfl:a0 = a0' := Option.some.inj (ha0.symm.trans ha0');have hk := e3.1;have hk2 := e3.2.1;have hk' := e5.1;have hk2' := e5.2.1;have wk:wrap .i64 ((k:Int) - 1) = (k:Int) - 1 := wrap_id (by omega) (by omega);have wk':wrap .i64 ((k':Int) - 1) = (k':Int) - 1 := wrap_id (by omega) (by omega);refine gZ ?_;rw [wk];refine t_pu (c49 _ _ _) ?_;refine gZ ?_;refine t_cond (fun _ => ?_) (fun e6 => ?_)
  ·refine gZ ?_;exact t_ret ⟨rfl,6,rfl,fun e => by cases e⟩
  have hsrc := in_iff.1 (show isIn m.src 0 ((k:Int) - 1) = true by simpa using e6);refine gZ ?_;rw [wk'];refine t_pu (c49 _ _ _) ?_;refine gZ ?_;refine t_cond (fun _ => ?_) (fun e7 => ?_)
  ·refine gZ ?_;exact t_ret ⟨rfl,6,rfl,fun e => by cases e⟩
  have hdst := in_iff.1 (show isIn m.dst 0 ((k':Int) - 1) = true by simpa using e7);refine t_again ⟨rfl,rfl,⟨hed.1,by omega,hsrc.1,?_⟩,⟨by omega,by omega,hdst.1,?_⟩⟩
  ·unfold GTab.items;rw [List.getD_eq_getElem?_getD,hl];show m.src < (l.length:Int);omega
  ·unfold GTab.items;rw [List.getD_eq_getElem?_getD,hl'];show m.dst < (l'.length:Int);omega
 rintro vs _ ⟨rfl,rfl,ho1,ho2⟩;refine gZ ?_;refine t_loop (fun mm vs h' => h = h' /\ ∃ k:Nat,vs = [.int .i64 0,.int .i64 k] /\ k <= i /\ mm = i - k /\ ∀ (j:Nat) y,j < k -> t.moves[j]? = some y -> ¬ (y.ed = m.ed /\ y.src = m.src /\ y.dst = m.dst)) ⟨rfl,0,rfl,Nat.zero_le _,rfl,fun j y hj => absurd hj (Nat.not_lt_zero _)⟩ ?_;rintro Y mm vs _ hY ⟨rfl,k,rfl,hk,rfl,hall⟩;refine gZ ?_;refine t_if (fun e1 => ?_) (fun e1 => ?_)
 ·obtain ⟨y,a',hy,ha',g4,g5,g6⟩ := hr.moves.at (i := k) (by omega);obtain rfl:a = a' := Option.some.inj (ha.symm.trans ha');have hkn:0 <= (k:Int) /\ (k:Int) < (f.n1:Int) := by omega
  refine gZ ?_;refine t_eqK (flatMv _ _ _) (flatMv _ _ _) egMv fun cb hcb => ?_;refine gZ ?_;refine t_cond (fun _ => ?_) (fun b2 => ?_)
  ·refine gI ?_;refine gZ ?_;exact t_ret ⟨rfl,5,rfl,fun e => by cases e⟩
  ·refine t_again (hY (i - (k + 1)) _ _ (by omega) ⟨rfl,k + 1,?_,by omega,rfl,fun j z hj hz => ?_⟩)
   ·rw [wrap_id (by omega) (by omega)]; rfl
   ·by_cases e:j = k
    ·subst e; rw [hy] at hz; cases hz;rintro ⟨h1,h2,h3⟩;rw [hcb.2 (by rw [h1,h2,h3])] at b2; cases b2
    ·exact hall j z (by omega) hz
 ·refine gZ ?_;refine t_ret ⟨rfl,0,rfl,fun _ m' hm' => ?_⟩;rw [hm] at hm'; cases hm';exact ⟨⟨ho1,ho2⟩,fun j y hj hy => hall j y (by omega) hy⟩
set_option maxRecDepth 10000 in
theorem c3167 {h:LH} {f:TabC} {t:GTab} (hr:TabR h.get f t) {i:Nat} (hi:i < f.n2):FW X0 Tryz.prog 57 #[tabV f,.int .i64 i] h fun r h' => h = h' /\ ∃ g:Int,r = .int .i64 g /\
  (g = 0 -> ∀ m,t.kins[i]? = some m -> (itemB t m.ed m.one /\ itemB t m.ed m.two /\ m.one < m.two /\ 1 <= m.lev /\ m.lev <= 5) /\ ∀ (k:Nat) y,k < i -> t.kins[k]? = some y -> ¬ (y.ed = m.ed /\ y.one = m.one /\ y.two = m.two)) := by
 refine w3167 _ _ _ _ _ _ _ _ _ _ X0_ok ?_;unfold n3167;have hn0 := hr.eds.1;have hb0 := hr.eds.2.1;have hn1 := hr.kins.1;have hb1 := hr.kins.2.1;obtain ⟨m,a,hm,ha,g1,g2,g3,g4⟩ := hr.kins.at (i := i) (by omega);have hin:0 <= (i:Int) /\ (i:Int) < (f.n2:Int) := by omega
 refine gZ ?_;have w2:wrap .i64 ((f.n0:Int) - 1) = (f.n0:Int) - 1 := wrap_id (by omega) (by omega);rw [w2];refine t_blk (fun vs h' => vs = [.int .i64 0] /\ h = h' /\ itemB t m.ed m.one /\ itemB t m.ed m.two) ?_ ?_
 ·refine t_pu (c49 _ _ _) ?_;refine gZ ?_;refine t_cond (fun _ => ?_) (fun e1 => ?_)
  ·refine gZ ?_;exact t_ret ⟨rfl,6,rfl,fun e => by cases e⟩
  have hed:0 <= m.ed /\ m.ed <= (f.n0:Int) - 1 := in_iff.1 (by simpa using e1);have hedn:0 <= m.ed /\ m.ed < (f.n0:Int) := by omega
  obtain ⟨l,a0,hl,ha0,q,k,c,e2,e3⟩ := hr.eds.at (i := m.ed.toNat) (by omega);have hk := e3.1;have hk2 := e3.2.1;have wk:wrap .i64 ((k:Int) - 1) = (k:Int) - 1 := wrap_id (by omega) (by omega);refine gZ ?_;rw [wk];refine t_pu (c49 _ _ _) ?_;refine gZ ?_;refine t_cond (fun _ => ?_) (fun e6 => ?_)
  ·refine gZ ?_;exact t_ret ⟨rfl,6,rfl,fun e => by cases e⟩
  have hsrc := in_iff.1 (show isIn m.one 0 ((k:Int) - 1) = true by simpa using e6);refine gZ ?_;rw [wk];refine t_pu (c49 _ _ _) ?_;refine gZ ?_;refine t_cond (fun _ => ?_) (fun e7 => ?_)
  ·refine gZ ?_;exact t_ret ⟨rfl,6,rfl,fun e => by cases e⟩
  have hdst := in_iff.1 (show isIn m.two 0 ((k:Int) - 1) = true by simpa using e7);have hit:(t.items m.ed).length = l.length := by
   unfold GTab.items;rw [List.getD_eq_getElem?_getD,hl]; rfl
  exact t_again ⟨rfl,rfl,⟨hed.1,by omega,hsrc.1,by omega⟩,⟨hed.1,by omega,hdst.1,by omega⟩⟩
 rintro vs _ ⟨rfl,rfl,ho1,ho2⟩;refine gZ ?_;refine t_if (fun _ => t_ret ⟨rfl,7,rfl,fun e => by cases e⟩) (fun e1 => ?_);refine t_pu (c49 _ _ _) ?_;refine gZ ?_;refine t_cond (fun _ => t_ret ⟨rfl,1,rfl,fun e => by cases e⟩) (fun e2 => ?_);have hlev := in_iff.1 (show isIn m.lev 1 5 = true by simpa using e2);refine t_loop (fun mm vs h' => h = h' /\ ∃ k:Nat,vs = [.int .i64 0,.int .i64 k] /\ k <= i /\ mm = i - k /\ ∀ (j:Nat) y,j < k -> t.kins[j]? = some y -> ¬ (y.ed = m.ed /\ y.one = m.one /\ y.two = m.two)) ⟨rfl,0,rfl,Nat.zero_le _,rfl,fun j y hj => absurd hj (Nat.not_lt_zero _)⟩ ?_;rintro Y mm vs _ hY ⟨rfl,k,rfl,hk,rfl,hall⟩;refine gZ ?_;refine t_if (fun e3 => ?_) (fun e3 => ?_)
 ·obtain ⟨y,a',hy,ha',k1,k2,k3,k4⟩ := hr.kins.at (i := k) (by omega);obtain rfl:a = a' := Option.some.inj (ha.symm.trans ha');have hkn:0 <= (k:Int) /\ (k:Int) < (f.n2:Int) := by omega
  have next:¬ (y.ed = m.ed /\ y.one = m.one /\ y.two = m.two) -> Y [.int .i64 0,.int .i64 (wrap .i64 ((k:Int) + 1))] h := fun hno => by
   refine hY (i - (k + 1)) _ _ (by omega) ⟨rfl,k + 1,?_,by omega,rfl,fun j z hj hz => ?_⟩
   ·rw [wrap_id (by omega) (by omega)]; rfl
   ·by_cases e:j = k
    ·subst e; rw [hy] at hz; cases hz; exact hno
    ·exact hall j z (by omega) hz
  refine gZ ?_;refine t_cond (fun b1 => ?_) (fun b1 => ?_)
  ·refine gZ ?_;refine t_cond (fun b2 => ?_) (fun b2 => ?_)
   ·refine gZ ?_;refine t_cond (fun b3 => ?_) (fun b3 => ?_)
    ·refine gI ?_;refine gZ ?_;exact t_ret ⟨rfl,5,rfl,fun e => by cases e⟩
    ·exact t_again (next fun hh => by simp [hh.2.2] at b3)
   ·refine gZ ?_;refine gT (by rw [b1]) ?_;refine gZ ?_;exact t_again (next fun hh => by simp [hh.2.1] at b2)
  ·refine gZ ?_;exact t_again (next fun hh => by simp [hh.1] at b1)
 ·refine gZ ?_;refine t_ret ⟨rfl,0,rfl,fun _ m' hm' => ?_⟩;rw [hm] at hm'; cases hm';exact ⟨⟨ho1,ho2,by omega,hlev.1,hlev.2⟩,fun j y hj hy => hall j y (by omega) hy⟩
theorem c3132 {h:LH} {f:TabC} {t:GTab} (hr:TabR h.get f t):FW X0 Tryz.prog 23 #[tabV f] h fun r h' => h = h' /\ ∃ g:Int,r = .int .i64 g /\ (g = 0 -> TabOk t) := by
 refine w3132 _ _ _ _ _ _ _ _ _ X0_ok ?_;unfold n3132;have hn0 := hr.eds.1;have hb0 := hr.eds.2.1;have hn1 := hr.moves.1;have hb1 := hr.moves.2.1;have hn2 := hr.kins.1;have hb2 := hr.kins.2.1;refine t_pu (c49 _ _ _) ?_;refine gZ ?_;refine t_cond (fun _ => t_ret ⟨rfl,2,rfl,fun e => by cases e⟩) (fun e0 => ?_);have hmany := in_iff.1 (show isIn (f.n0:Int) 1 3 = true by simpa using e0);refine t_loopB (fun mm vs h' => h = h' /\ ∃ i:Nat,vs = [.int .i64 0,.int .i64 i] /\ i <= f.n0 /\ mm = f.n0 - i /\ ∀ (j:Nat) l,j < i -> t.eds[j]? = some l -> EdOk l) (fun vs h' => h = h' /\ (∃ i:Nat,vs = [.int .i64 0,.int .i64 i]) /\ ∀ l ∈ t.eds,EdOk l) ⟨rfl,0,rfl,Nat.zero_le _,rfl,fun j y hj => absurd hj (Nat.not_lt_zero _)⟩ ?_ ?_
 ·rintro Y mm vs _ hY ⟨rfl,i,rfl,hi,rfl,hall⟩;refine gZ ?_;refine t_if (fun e1 => ?_) (fun e1 => ?_)
  ·obtain ⟨l,a,hl,ha,q,n,c,e2,e3⟩ := hr.eds.at (i := i) (by omega);have hin:0 <= (i:Int) /\ (i:Int) < (f.n0:Int) := by omega
   refine gZ ?_;refine t_call (FW.top (c3165 e3)) ?_;rintro _ _ ⟨rfl,g,rfl,hg⟩;refine gZ ?_;refine t_cond (fun e4 => ?_) (fun e4 => ?_)
   ·refine gI ?_;refine gZ ?_;exact t_ret ⟨rfl,g,rfl,fun e => by subst e; cases e4⟩
   ·refine t_again (hY (f.n0 - (i + 1)) _ _ (by omega) ⟨rfl,i + 1,?_,by omega,rfl,fun j z hj hz => ?_⟩)
    ·rw [wrap_id (by omega) (by omega)]; rfl
    ·by_cases e:j = i
     ·subst e; rw [hl] at hz; cases hz; exact hg (by simpa using e4)
     ·exact hall j z (by omega) hz
  ·refine gH ⟨rfl,⟨i,rfl⟩,fun l hl => ?_⟩;obtain ⟨j,hj⟩ := List.mem_iff_getElem?.1 hl;exact hall j l (by have := (List.getElem?_eq_some_iff.1 hj).1; omega) hj
 rintro vs _ ⟨rfl,⟨i0,rfl⟩,heds⟩;refine gZ ?_;refine t_if (fun _ => t_ret ⟨rfl,2,rfl,fun e => by cases e⟩) (fun e1 => ?_);refine t_loopB (fun mm vs h' => h = h' /\ ∃ i:Nat,vs = [.int .i64 0,.int .i64 i] /\ i <= f.n1 /\ mm = f.n1 - i /\ ∀ (j:Nat) m,j < i -> t.moves[j]? = some m -> (itemB t m.ed m.src /\ itemB t (m.ed + 1) m.dst) /\ ∀ (k:Nat) y,k < j -> t.moves[k]? = some y -> ¬ (y.ed = m.ed /\ y.src = m.src /\ y.dst = m.dst))
  (fun vs h' => h = h' /\ (∃ i:Nat,vs = [.int .i64 0,.int .i64 i]) /\ ∀ (j:Nat) m,t.moves[j]? = some m -> (itemB t m.ed m.src /\ itemB t (m.ed + 1) m.dst) /\ ∀ (k:Nat) y,k < j -> t.moves[k]? = some y -> ¬ (y.ed = m.ed /\ y.src = m.src /\ y.dst = m.dst)) ⟨rfl,0,rfl,Nat.zero_le _,rfl,fun j y hj => absurd hj (Nat.not_lt_zero _)⟩ ?_ ?_
 ·rintro Y mm vs _ hY ⟨rfl,i,rfl,hi,rfl,hall⟩;refine gZ ?_;refine t_if (fun e2 => ?_) (fun e2 => ?_)
  ·refine t_call (FW.top (c3166 hr (i := i) (by omega))) ?_;rintro _ _ ⟨rfl,g,rfl,hg⟩;refine gZ ?_;refine t_cond (fun e4 => ?_) (fun e4 => ?_)
   ·refine gI ?_;refine gZ ?_;exact t_ret ⟨rfl,g,rfl,fun e => by subst e; cases e4⟩
   ·refine t_again (hY (f.n1 - (i + 1)) _ _ (by omega) ⟨rfl,i + 1,?_,by omega,rfl,fun j z hj hz => ?_⟩)
    ·rw [wrap_id (by omega) (by omega)]; rfl
    ·by_cases e:j = i
     ·subst e; exact hg (by simpa using e4) z hz
     ·exact hall j z (by omega) hz
  ·refine gH ⟨rfl,⟨i,rfl⟩,fun j m hj => ?_⟩;exact hall j m (by have := (List.getElem?_eq_some_iff.1 hj).1; omega) hj
 rintro vs _ ⟨rfl,⟨i1,rfl⟩,hmvs⟩;refine gZ ?_;refine t_if (fun _ => t_ret ⟨rfl,2,rfl,fun e => by cases e⟩) (fun e2 => ?_);refine t_loop (fun mm vs h' => h = h' /\ ∃ i:Nat,vs = [.int .i64 0,.int .i64 i] /\ i <= f.n2 /\ mm = f.n2 - i /\ ∀ (j:Nat) m,j < i -> t.kins[j]? = some m -> (itemB t m.ed m.one /\ itemB t m.ed m.two /\ m.one < m.two /\ 1 <= m.lev /\ m.lev <= 5) /\ ∀ (k:Nat) y,k < j -> t.kins[k]? = some y -> ¬ (y.ed = m.ed /\ y.one = m.one /\ y.two = m.two)) ⟨rfl,0,rfl,Nat.zero_le _,rfl,fun j y hj => absurd hj (Nat.not_lt_zero _)⟩ ?_;rintro Y mm vs _ hY ⟨rfl,i,rfl,hi,rfl,hall⟩;refine gZ ?_;refine t_if (fun e3 => ?_) (fun e3 => ?_)
 ·refine t_call (FW.top (c3167 hr (i := i) (by omega))) ?_;rintro _ _ ⟨rfl,g,rfl,hg⟩;refine gZ ?_;refine t_cond (fun e4 => ?_) (fun e4 => ?_)
  ·refine gI ?_;refine gZ ?_;exact t_ret ⟨rfl,g,rfl,fun e => by subst e; cases e4⟩
  ·refine t_again (hY (f.n2 - (i + 1)) _ _ (by omega) ⟨rfl,i + 1,?_,by omega,rfl,fun j z hj hz => ?_⟩)
   ·rw [wrap_id (by omega) (by omega)]; rfl
   ·by_cases e:j = i
    ·subst e; exact hg (by simpa using e4) z hz
    ·exact hall j z (by omega) hz
 ·refine gZ ?_;have hks:∀ (j:Nat) m,t.kins[j]? = some m -> _ := fun j m hj => hall j m (by have := (List.getElem?_eq_some_iff.1 hj).1; omega) hj;refine t_ret ⟨rfl,0,rfl,fun _ => ⟨by omega,heds,by omega,fun m hm => ?_,fun j k x y hjk hx hy => (hmvs k y hy).2 j x hjk hx,by omega,fun m hm => ?_,fun j k x y hjk hx hy => (hks k y hy).2 j x hjk hx⟩⟩
  ·obtain ⟨j,hj⟩ := List.mem_iff_getElem?.1 hm;exact (hmvs j m hj).1
  ·obtain ⟨j,hj⟩ := List.mem_iff_getElem?.1 hm;exact (hks j m hj).1
theorem c3108 {h:LH} {f:TabC} {t:GTab} (hr:TabR h.get f t):FW X0 Tryz.prog 7 #[tabV f] h fun r h' => h = h' /\ ∃ b,r = .bool b /\ (b = true -> TabOk t) := by
 refine w3108 _ _ _ _ _ _ _ _ _ X0_ok ?_;unfold n3108;refine t_call (FW.top (c3131 hr)) ?_;rintro _ _ ⟨rfl,b,rfl⟩;refine gZ ?_;refine t_cond (fun _ => ?_) (fun _ => ?_)
 ·refine t_call (FW.top (c3132 hr)) ?_;rintro _ _ ⟨rfl,g,rfl,hg⟩;refine gZ ?_;exact t_ret ⟨rfl,_,rfl,fun e => hg (by simpa using e)⟩
 ·exact t_ret ⟨rfl,_,rfl,fun e => by cases e⟩
end
section
open Go Go.TM Go.Proofs
attribute [local irreducible] T.wp CV FWK
theorem c88 {h:LH} (p:Option Addr) (land item:Int):Gr Tryz.prog 106 #[.pointer p,.int .i64 land,.int .i64 item] h fun r h' => ∃ z0 z1 z2,r = .func (.func 143) #[] #[.pointer (some z0),.pointer (some z1),.pointer (some z2)] /\
  h'.get.cell? z0 = some (.pointer p) /\ h'.get.cell? z1 = some (.int .i64 land) /\ h'.get.cell? z2 = some (.int .i64 item) := by
 refine w88 _ _ _ X0_ok ?_;unfold n88;refine t_new fun r hr => ?_;refine t_new fun r1 hr1 => ?_;refine t_new fun r2 hr2 => ?_;have l1:h.le _ := LH.upd_le (x := (true,.cells #[.pointer p] 121 (0,0))) hr;have l2 := LH.upd_le (x := (true,.cells #[.int .i64 land] 3 (0,0))) hr1;have l3 := LH.upd_le (x := (true,.cells #[.int .i64 item] 3 (0,0))) hr2;have c1:Cells.cell? (h.get.upd r (true,.cells #[.pointer p] 121 (0,0))) ⟨r,0,none⟩ = some (.pointer p) := cell_upd rfl;have c2:Cells.cell? ((h.get.upd r (true,.cells #[.pointer p] 121 (0,0))).upd r1 (true,.cells #[.int .i64 land] 3 (0,0))) ⟨r1,0,none⟩ = some (.int .i64 land) := cell_upd rfl;have c3:Cells.cell? (((h.get.upd r (true,.cells #[.pointer p] 121 (0,0))).upd r1 (true,.cells #[.int .i64 land] 3 (0,0))).upd r2 (true,.cells #[.int .i64 item] 3 (0,0))) ⟨r2,0,none⟩ = some (.int .i64 item) := cell_upd rfl;exact t_ret ⟨LH.le_trans (LH.le_trans l1 l2) l3,_,_,_,rfl,Cells.cell?_le l3.1 (Cells.cell?_le l2.1 c1),Cells.cell?_le l3.1 c2,c3⟩
def handed (V:Nat -> Value) (s:Paper -> Bool):List Paper -> Nat -> List (List Value)
 | [],_ => []
 | x :: l,i => if s x then [V i] :: handed V s l (i + 1) else handed V s l (i + 1)
theorem handed_len (V:Nat -> Value) (s:Paper -> Bool):∀ (l:List Paper) (i:Nat),(handed V s l i).length = (l.filter s).length := by
 intro l
 induction l with
 | nil => intro i; rfl
 | cons x l ih => intro i; rw [handed,List.filter_cons]; split <;> simp [ih]
theorem handed_get (V:Nat -> Value) (s:Paper -> Bool):∀ (l:List Paper) (i k:Nat) xs,(handed V s l i)[k]? = some xs -> ∃ x j,(l.filter s)[k]? = some x /\ l[j]? = some x /\ xs = [V (i + j)] := by
 intro l
 induction l with
 | nil => intro i k xs h; simp [handed] at h
 | cons x l ih =>
  intro i k xs h;rw [handed] at h;rw [List.filter_cons];split at h
  ·rename_i hs;rw [if_pos hs];cases k with
   | zero => simp at h; exact ⟨x,0,rfl,rfl,by simp [<- h]⟩
   | succ k =>
    obtain ⟨y,j,h1,h2,h3⟩ := ih (i + 1) k xs (by simpa using h);exact ⟨y,j + 1,by simpa using h1,by simpa using h2,by rw [h3,show i + 1 + j = i + (j + 1) by omega]⟩
  ·rename_i hs;rw [if_neg hs];obtain ⟨y,j,h1,h2,h3⟩ := ih (i + 1) k xs h;exact ⟨y,j + 1,h1,by simpa using h2,by rw [h3,show i + 1 + j = i + (j + 1) by omega]⟩
theorem hands99 {X:XP} (hX:XOK X) {h₀:LH} {d:Nat} {z0 z1 z2:Addr} {land item:Int} {p:Option Addr} {n c:Nat} {ps:List Paper} (hz0:h₀.get.cell? z0 = some (.pointer (some ⟨d,0,none⟩))) (hz1:h₀.get.cell? z1 = some (.int .i64 land)) (hz2:h₀.get.cell? z2 = some (.int .i64 item))
  (h5:h₀.get.cell? (Addr.add ⟨d,0,none⟩ 5) = some (.slice p n c)) (hs:Sl PaperE 4 h₀.get p n ps) :
  ∃ L,L.length = (ps.filter (showsB land item)).length /\ (∀ (i:Nat) xs,L[i]? = some xs -> ∃ x q m c,(ps.filter (showsB land item))[i]? = some x /\ xs = [paperV x q m c] /\ Sl IntE 1 h₀.get q m x.items) /\
   Hands X Tryz.prog (.func (.func 143) #[] #[.pointer (some z0),.pointer (some z1),.pointer (some z2)]) h₀ L := by
 let R:Nat -> Value -> Prop := fun i v => ∃ x a q m c,ps[i]? = some x /\ p = some a /\ v = paperV x q m c /\ h₀.get.cell? ((a.add (i * 4)).add 0) = some (.int .i64 x.days.first) /\ h₀.get.cell? ((a.add (i * 4)).add 1) = some (.int .i64 x.days.last) /\ h₀.get.cell? ((a.add (i * 4)).add 2) = some (.int .i64 x.land) /\ h₀.get.cell? ((a.add (i * 4)).add 3) = some (.slice q m c) /\ Sl IntE 1 h₀.get q m x.items;have hR:∀ i x,ps[i]? = some x -> ∃ v,R i v := by
  intro i x hx;obtain ⟨a,ha,e1,e2,e3,q,m,k,e4,e5⟩ := hs.2.2 i x hx;exact ⟨_,x,a,q,m,k,hx,ha,rfl,e1,e2,e3,e4,e5⟩
 let V:Nat -> Value := fun i => Classical.epsilon (R i);have hV:∀ i x,ps[i]? = some x -> R i (V i) := fun i x hx => Classical.epsilon_spec (hR i x hx);refine ⟨handed V (showsB land item) ps 0,handed_len _ _ _ _,?_,?_⟩
 ·intro i xs hi;obtain ⟨x,j,h1,h2,h3⟩ := handed_get _ _ _ _ _ _ hi;rw [Nat.zero_add] at h3;obtain ⟨x',a,q,m,k,g1,_,g3,_,_,_,_,g8⟩ := hV j x h2;rw [h2] at g1; cases g1;exact ⟨x,q,m,k,h1,by rw [h3,g3],g8⟩
 ·intro y J E _ _ hyield h hle hJ;generalize hL:handed V (showsB land item) ps 0 = L at hyield ⊢;refine cv_fw hX (by rfl) (?_:FW X Tryz.prog 143 #[y,.pointer (some z0),.pointer (some z1),.pointer (some z2)] h _);refine w99 _ _ _ _ hX ?_;unfold n99;have hn := hs.1;have hb := hs.2.1;have y0 := Cells.cell?_le hle.1 hz0;have y5 := Cells.cell?_le hle.1 h5;refine gL3 y0 ?_;refine gS2 rfl ?_;refine gL1 y5 ?_;refine t_loop (fun mm vs h' => h₀.le h' /\ ∃ (j cnt:Nat),vs = [.int .i64 j] /\ j <= n /\ mm = n - j /\ J cnt h' /\ cnt <= L.length /\ L.drop cnt = handed V (showsB land item) (ps.drop j) j) (n := n) ⟨hle,0,0,rfl,Nat.zero_le _,by omega,hJ,Nat.zero_le _,by rw [<- hL]; rfl⟩ ?_;rintro Y mm vs h₁ hY ⟨le1,j,cnt,rfl,hj,rfl,hJ1,hcl,hdrop⟩;refine gZ ?_;refine t_if (fun e1 => ?_) (fun e1 => ?_)
  ·obtain ⟨x,hx⟩ : ∃ x,ps[j]? = some x := ⟨ps[j]'(by omega),List.getElem?_eq_getElem (by omega)⟩
   obtain ⟨x',a,q,m,k,g1,ha,hVj,c0,c1,c2,c3,hit⟩ := hV j x hx;rw [hx] at g1; cases g1;have d0 := Cells.cell?_le le1.1 c0;have d1 := Cells.cell?_le le1.1 c1;have d2 := Cells.cell?_le le1.1 c2;have d3 := Cells.cell?_le le1.1 c3;have w1 := Cells.cell?_le le1.1 hz1;have w2 := Cells.cell?_le le1.1 hz2;rw [drop_of hx,handed] at hdrop;refine gZ ?_;have skip:showsB land item x = false -> (T.leaf (.again [.int .i64 (wrap .i64 ((j:Int) + 1))])).wp X Tryz.prog (fun l h' => l.go h' Y (fun vs h' => T.wp X Tryz.prog (T.popI .i64 vs fun n vs => T.unNil vs (T.leaf (.ret (.tuple #[])))) (retQ fun _ h' => h₀.le h' /\ (J L.length h' \/ E h')) h') (fun vs h' => T.wp X Tryz.prog (T.popI .i64 vs fun n vs => T.unNil vs (T.leaf (.ret (.tuple #[])))) (retQ fun _ h' => h₀.le h' /\ (J L.length h' \/ E h')) h') (fun _ _ h' => T.wp X Tryz.prog .fail (retQ fun _ h' => h₀.le h' /\ (J L.length h' \/ E h')) h')) h₁ := by
    intro hno;rw [if_neg (by rw [hno]; simp)] at hdrop;refine t_again (hY (n - (j + 1)) _ _ (by omega) ⟨le1,j + 1,cnt,?_,by omega,rfl,hJ1,hcl,hdrop⟩);rw [wrap_id (by omega) (by omega)]; rfl
   refine t_cond (fun e2 => ?_) (fun e2 => ?_)
   ·refine gZ ?_;refine t_pu (c100 (hit.le IntE.grow le1.1) item) ?_;refine gZ ?_;refine t_cond (fun e3 => ?_) (fun e3 => ?_)
    ·have hsh:showsB land item x = true := by unfold showsB; rw [e2,e3]; rfl
     rw [if_pos hsh] at hdrop;have hget:L[cnt]? = some [V j] := by
      have:(L.drop cnt)[0]? = some [V j] := by rw [hdrop]; rfl
      simpa using this
     have hlt:cnt < L.length := (List.getElem?_eq_some_iff.1 hget).1;have hcv := hyield cnt h₁ [V j] le1 hget hJ1;rw [hVj] at hcv;refine t_callv hcv ?_;rintro b h₂ ⟨le2,⟨rfl,hJ2⟩ | ⟨rfl,hE⟩⟩
     ·refine gZ ?_;refine t_cond (fun e => by cases e) (fun _ => ?_);refine t_again (hY (n - (j + 1)) _ _ (by omega) ⟨le2,j + 1,cnt + 1,?_,by omega,rfl,hJ2,by omega,?_⟩)
      ·rw [wrap_id (by omega) (by omega)]; rfl
      ·rw [<- List.drop_drop,hdrop]; rfl
     ·refine gZ ?_;refine t_cond (fun _ => ?_) (fun e => by cases e);refine gZ ?_;exact t_ret ⟨le2,.inr hE⟩
    ·exact skip (by unfold showsB; rw [e2,e3]; rfl)
   ·exact skip (by unfold showsB; rw [e2]; rfl)
  ·refine gZ ?_;refine t_ret ⟨le1,.inl ?_⟩;rw [List.drop_eq_nil_of_le (by omega:ps.length <= j),handed] at hdrop;have:L.length <= cnt := List.drop_eq_nil_iff.1 hdrop;obtain rfl:cnt = L.length := by omega
   exact hJ1
end
section
open Go Go.TM Go.Proofs
attribute [local irreducible] T.wp CV FWK
theorem g30:Tryz.prog.eqGuardType Tryz.prog.depth 29 = false := by kernel_rfl
theorem c60 {h:LH} {d m:Nat} {f:FileC} {u:UseFile} (k:Desk h.get d m f u) (hnum:numbersF u = 0) (land item day:Int) (hd:0 <= day /\ day <= 2000) :
  De 63 #[.pointer (some ⟨d,0,none⟩),.int .i64 land,.int .i64 item,.int .i64 day] h d m f u fun r _ => r = .int .i64 (safe u land item day) := by
 refine w60 _ _ _ _ X0_ok ?_;unfold n60;refine t_de (c55 k (num_ok hnum).2.2.2 day hd) ?_;rintro _ h₁ mv k1 rfl;obtain ⟨f0,f1,f2,f3,f4,f5,f6⟩ := k1.file;refine gZ ?_;refine t_pu (c81 _ _ _) ?_;refine gZ ?_;refine t_cond (fun e => ?_) (fun e => ?_)
 ·exact t_ret ⟨mv,k1,by rw [safe,if_pos e]⟩
 refine t_gr (c88 _ _ _) ?_;rintro _ h₂ le2 ⟨z0,z1,z2,rfl,hz0,hz1,hz2⟩;have k2 := k1.le le2.1;obtain ⟨L,hL1,hL2,hH⟩ := hands99 X0_ok hz0 hz1 hz2 k2.file.f5 k2.rep.papers;refine t_each (LH.le_refl h₂) hH (fun i vs h' => ∃ out,vs = [.int .i64 0,.int .i64 out] /\ safe u land item day = safeGo (window u day) ((shown u land item).drop i) out) ⟨2,rfl,by rw [safe,if_neg (by rw [e]; simp)]; rfl⟩ ?_ ?_
 ·rintro vs h' hle ⟨out,rfl,hc⟩;rw [List.drop_eq_nil_of_le (by rw [hL1]; exact Nat.le_refl _),safeGo] at hc;refine gZ ?_;exact t_ret ⟨mv.trans (Mv.of_le (LH.le_trans le2 hle)),k2.le hle.1,by rw [hc]⟩
 ·rintro i xs vs h' hi hle ⟨out,rfl,hc⟩ Y hY;obtain ⟨x,q,n,c,hx,rfl,hit⟩ := hL2 i xs hi;have hx':(shown u land item)[i]? = some x := hx;rw [drop_of hx',safeGo] at hc;unfold paperV;refine gZ ?_;refine t_eq2 two30 g30 ?_;refine gZ ?_;refine t_cond (fun e2 => ?_) (fun e2 => ?_)
  ·refine t_retnE hle ?_;have e2':insideB (window u day) x.days = true := e2;rw [if_pos e2'] at hc;refine gZ ?_;exact t_ret ⟨mv.trans (Mv.of_le (LH.le_trans le2 hle)),k2.le hle.1,by rw [hc]⟩
  ·have e2':insideB (window u day) x.days = false := e2;rw [if_neg (by rw [e2']; simp)] at hc;refine t_cond (fun e3 => ?_) (fun e3 => ?_)
   ·have e3':meetsB (window u day) x.days = true := e3;rw [if_pos e3'] at hc;exact t_againE hle (hY _ _ hle ⟨0,rfl,hc⟩)
   ·have e3':meetsB (window u day) x.days = false := e3;rw [if_neg (by rw [e3']; simp)] at hc;exact t_againE hle (hY _ _ hle ⟨out,rfl,hc⟩)
def safeR (u:UseFile) (land item day:Int):Value :=
 if openF u [landQ u land,itemQ u item,dayQ day] ≠ 0 then .tuple #[.int .i64 0,.int .i64 (openF u [landQ u land,itemQ u item,dayQ day])] else .tuple #[.int .i64 (safe u land item day),.int .i64 0]
theorem c19 {h:LH} {f:FileC} {u:UseFile} (hp:Parts h.get) (hu:FileR h.get f u) (land item day:Int):Gr Tryz.prog 26 #[fileV f u,.int .i64 land,.int .i64 item,.int .i64 day] h fun r _ => r = safeR u land item day := by
 refine w19 _ _ _ _ _ _ _ _ _ _ _ _ _ _ _ _ X0_ok ?_;unfold n19;refine t_gr (c58 u land) ?_;rintro v0 h₁ le1 ⟨q0,a0⟩;refine gZ ?_;refine t_gr (c59 u item) ?_;rintro v1 h₂ le2 ⟨q1,a1⟩;refine gZ ?_;refine t_gr (c54 u day) ?_;rintro v2 h₃ le3 ⟨q2,a2⟩;refine gZ ?_;refine asks3 q0 (a0.le (LH.le_trans le2 le3)) q1 (a1.le le3) q2 a2 fun r h₄ le4 hs => ?_;refine gZ ?_;have le14 := LH.le_trans (LH.le_trans (LH.le_trans le1 le2) le3) le4;refine t_call (c53 (f := f) (hp.le le14.1) (hu.le le14.1) hs) ?_;rintro v h₅ ⟨le5,⟨hne,rfl⟩ | ⟨h0,d,m,rfl,hd,hm,k⟩⟩
 ·refine gZ ?_;refine t_cond (fun _ => ?_) (fun e => absurd (by simpa using e) hne);refine t_ret ⟨LH.le_trans le14 le5,?_⟩;show _ = safeR u land item day;rw [safeR,if_pos hne]
 ·refine gZ ?_;refine t_cond (fun e => by cases e) (fun _ => ?_);have hq := dayQ_zero (open_zero h0 _ (by simp; exact .inr (.inr rfl)));refine t_de (c60 k (open_num h0).1 land item day hq) ?_;rintro _ h₆ mv k6 rfl;refine gZ ?_;refine t_ret ⟨LH.le_trans le14 (Mv.le_of le5 hm mv),?_⟩;show _ = safeR u land item day;rw [safeR,if_neg (by simpa using h0)]
def weakR (u:UseFile) (land item:Int):Value :=
 if openF u [landQ u land,itemQ u item] ≠ 0 then .tuple #[.int .i64 0,.int .i64 (openF u [landQ u land,itemQ u item])] else .tuple #[.int .i64 (weak u land item),.int .i64 0]
theorem c21 {h:LH} {f:FileC} {u:UseFile} (hp:Parts h.get) (hu:FileR h.get f u) (land item:Int):Gr Tryz.prog 27 #[fileV f u,.int .i64 land,.int .i64 item] h fun r _ => r = weakR u land item := by
 refine w21 _ _ _ _ _ _ _ _ _ _ _ _ _ _ _ X0_ok ?_;unfold n21;refine t_gr (c58 u land) ?_;rintro v0 h₁ le1 ⟨q0,a0⟩;refine gZ ?_;refine t_gr (c59 u item) ?_;rintro v1 h₂ le2 ⟨q1,a1⟩;refine gZ ?_;refine asks2 q0 (a0.le le2) q1 a1 fun r h₄ le4 hs => ?_;refine gZ ?_;have le14 := LH.le_trans (LH.le_trans le1 le2) le4;refine t_call (c53 (f := f) (hp.le le14.1) (hu.le le14.1) hs) ?_;rintro v h₅ ⟨le5,⟨hne,rfl⟩ | ⟨h0,d,m,rfl,hd,hm,k⟩⟩
 ·refine gZ ?_;refine t_cond (fun _ => ?_) (fun e => absurd (by simpa using e) hne);refine t_ret ⟨LH.le_trans le14 le5,?_⟩;show _ = weakR u land item;rw [weakR,if_pos hne]
 ·refine gZ ?_;refine t_cond (fun e => by cases e) (fun _ => ?_);have hnum := (open_num h0).1;have hfrom := (num_ok hnum).2.2.1;refine t_loop (fun mm vs h' => Mv m h₅ h' /\ Desk h'.get d m f u /\ ∃ x:Int,vs = [.int .i64 0,.int .i64 0,.int .i64 x] /\ 0 <= x /\ x <= 2001 /\ mm = (2001 - x).toNat /\ weak u land item = weakGo (fun d => decide (safe u land item d ≠ 1)) (2001 - x).toNat x)
   ⟨Mv.refl,k,u.from_,rfl,by omega,by omega,rfl,rfl⟩ ?_
  rintro Y mm vs h₆ hY ⟨mv,k6,x,rfl,hx0,hx1,rfl,hc⟩;refine gZ ?_;refine t_if (fun e1 => ?_) (fun e1 => ?_)
  ·refine t_de (c60 k6 hnum land item x ⟨hx0,e1⟩) ?_;rintro _ h₇ mv7 k7 rfl;refine gZ ?_;obtain ⟨y,hy⟩ : ∃ y,(2001 - x).toNat = y + 1 := ⟨(2000 - x).toNat,by omega⟩
   have hy':(2001 - (x + 1)).toNat = y := by omega
   rw [hy,weakGo] at hc;refine t_cond (fun e2 => ?_) (fun e2 => ?_)
   ·refine gZ ?_;refine t_ret ⟨LH.le_trans le14 (Mv.le_of le5 hm (mv.trans mv7)),?_⟩;show _ = weakR u land item;rw [weakR,if_neg (by simpa using h0),hc,if_pos (by simpa using e2)]
   ·rw [if_neg (by simpa using e2)] at hc;refine t_again (hY (2001 - (x + 1)).toNat _ _ (by omega) ⟨mv.trans mv7,k7,x + 1,?_,by omega,by omega,rfl,by rw [hy']; exact hc⟩);rw [wrap_id (by omega) (by omega)]
  ·refine gZ ?_;have h01:(2001 - x).toNat = 0 := by omega
   rw [h01,weakGo] at hc;refine t_ret ⟨LH.le_trans le14 (Mv.le_of le5 hm mv),?_⟩;show _ = weakR u land item;rw [weakR,if_neg (by simpa using h0),hc]
end
section
open Go Go.TM Go.Proofs
attribute [local irreducible] T.wp CV FWK
def ReqEnc (h₀:Cells) (x:Request) (ws:List Value):Prop := ∃ q m c,ws = [.int .i64 x.day,.int .i64 x.land,.slice q m c] /\ Sl IntE 1 h₀ q m x.items
theorem ReqEnc.len {h₀:Cells}:∀ x ws,ReqEnc h₀ x ws -> ws.length = 3 := by rintro x _ ⟨q,m,c,rfl,_⟩; rfl
theorem ReqEnc.e {h₀ h':Cells} (hr:Rd h₀ h'):∀ a x ws,ReqEnc h₀ x ws -> (∀ (j:Nat) w,ws[j]? = some w -> h'.cell? (a.add j) = some w) -> RequestE h' a x := by
 rintro a x _ ⟨q,m,c,rfl,hs⟩ hc;exact ⟨hc 0 _ rfl,hc 1 _ rfl,q,m,c,hc 2 _ rfl,hs.rd IntE.grow hr⟩
theorem c101 {h:LH} {d m:Nat} {f:FileC} {u:UseFile} (k:Desk h.get d m f u) (hck:checkF u = 0) (land item day:Int) :
  Gr Tryz.prog 144 #[.pointer (some ⟨d,0,none⟩),.int .i64 land,.int .i64 item,.int .i64 day] h fun r h' => ∃ p n c,r = .slice p n c /\ Sl RequestE 3 h'.get p n (against u land item day) := by
 refine w101 _ _ _ _ X0_ok ?_;unfold n101;obtain ⟨f0,f1,f2,f3,f4,f5,f6⟩ := k.file;have hlen := (check_requests hck).1;have hn6 := k.rep.requests.1;refine gZ ?_;refine t_loop (fun mm vs h' => h.le h' /\ ∃ (i:Nat) (p:Option Addr) (n c:Nat) (rs:List Request),vs = [.slice p n c,.int .i64 i] /\ i <= f.n6 /\ mm = f.n6 - i /\ Growing (ReqEnc h.get) 34 3 h.get h'.get p n c rs /\ rs.length <= i /\ against u land item day = rs ++ (u.requests.drop i).filter (agB land item day))
  ⟨LH.le_refl _,0,none,0,0,[],rfl,Nat.zero_le _,rfl,Growing.nil,Nat.le_refl _,rfl⟩ ?_
 rintro Y mm vs h₁ hY ⟨hle,i,p,n,c,rs,rfl,hi,rfl,g,hrl,hc⟩;refine gZ ?_;refine t_if (fun e1 => ?_) (fun e1 => ?_)
 ·obtain ⟨x,a,hx,ha,e2,e3,q,mq,cq,e4,e5⟩ := k.rep.requests.at (i := i) (by omega);have e2 := Cells.cell?_le hle.1 e2;have e3 := Cells.cell?_le hle.1 e3;have e4 := Cells.cell?_le hle.1 e4;rw [drop_of hx,List.filter_cons] at hc;have skip:agB land item day x = false -> Y [.slice p n c,.int .i64 (wrap .i64 ((i:Int) + 1))] h₁ := by
   intro hno;rw [if_neg (by rw [hno]; simp)] at hc;refine hY (f.n6 - (i + 1)) _ _ (by omega) ⟨hle,i + 1,p,n,c,rs,?_,by omega,rfl,g,by omega,hc⟩;rw [wrap_id (by omega) (by omega)]; rfl
  refine gZ ?_;refine t_cond (fun b1 => ?_) (fun b1 => ?_)
  ·refine t_if (fun b2 => ?_) (fun b2 => ?_)
   ·refine t_pu (c100 (e5.le IntE.grow hle.1) item) ?_;refine gZ ?_;refine t_cond (fun b3 => ?_) (fun b3 => ?_)
    ·have hag:agB land item day x = true := by unfold agB; rw [b1,b3]; simp [b2]
     rw [if_pos hag] at hc;refine t_build und24 inf64 (by decide) (by decide) (cells := #[.int .i64 x.day,.int .i64 x.land,.slice q mq cq]) (by kernel_rfl) fun r hr => ?_;have le1:h₁.le _ := LH.upd_le (x := (true,.cells #[.int .i64 x.day,.int .i64 x.land,.slice q mq cq] 34 (0,0))) hr;have hng := g.count ReqEnc.len (by omega);refine gZ ?_;refine t_grow (x := x) (ws := [.int .i64 x.day,.int .i64 x.land,.slice q mq cq]) rfl rfl und24 und24 inf64 rfl (by omega) (by omega) (g.le le1.1) (LH.le_trans hle le1) ⟨q,mq,cq,rfl,e5⟩ rfl ?_ ?_ ?_
     ·intro j w hj;rw [add_plain,Nat.zero_add];exact cell_upd (by simpa using hj)
     ·intro w hw;simp at hw;rcases hw with rfl | rfl | rfl <;> rfl
     ·intro p' c' h₂ hle2 _ g2;refine gZ ?_;refine t_again (hY (f.n6 - (i + 1)) _ _ (by omega) ⟨hle2,i + 1,p',n + 1,c',rs ++ [x],?_,by omega,rfl,g2,by simp; omega,by rw [hc]; simp⟩);rw [wrap_id (by omega) (by omega)]; rfl
    ·exact t_again (skip (by unfold agB; rw [b1,b3]; simp))
   ·exact t_again (skip (by unfold agB; rw [b1]; simp [b2]))
  ·exact t_again (skip (by unfold agB; rw [b1]; rfl))
 ·refine gZ ?_;rw [List.drop_eq_nil_of_le (by omega)] at hc;simp at hc;refine t_ret ⟨hle,p,n,c,rfl,?_⟩;rw [hc];exact g.sl ReqEnc.len (by omega) (ReqEnc.e (Rd.of_le hle.1)) (by omega)
theorem or_bits {a k:Nat} (ha:a < 2 ^ 32) (hk:k < 32):wrap .i64 (((BitVec.ofInt 64 (a:Int) ||| BitVec.ofInt 64 (wrap .i64 (1 * 2 ^ min (k:Int).toNat 64))).toNat:Nat):Int) = ((a ||| 2 ^ k:Nat):Int) := by
 have hm:min (k:Int).toNat 64 = k := by simp; omega
 have hp:(2:Nat) ^ k < 2 ^ 32 := Nat.pow_lt_pow_right (by omega) hk;have hp':(1 * 2 ^ k:Int) = ((2 ^ k:Nat):Int) := by simp
 rw [hm,hp'];generalize hq:(2:Nat) ^ k = q at hp;have hw:wrap .i64 ((q:Nat):Int) = (q:Int) := wrap_id (by omega) (by omega);rw [hw];have h1:(BitVec.ofInt 64 (a:Int)).toNat = a := by rw [BitVec.toNat_ofInt]; omega
 have h2:(BitVec.ofInt 64 (q:Int)).toNat = q := by rw [BitVec.toNat_ofInt]; omega
 rw [BitVec.toNat_or,h1,h2];have h3:a ||| q < 2 ^ 32 := Nat.or_lt_two_pow ha hp;exact wrap_id (by omega) (by omega)
theorem c107 {h:LH} {d m:Nat} {f:FileC} {u:UseFile} (k:Desk h.get d m f u) (hck:checkF u = 0) {p:Option Addr} {n c:Nat} {l:List Request} (hl:Sl RequestE 3 h.get p n l) (hl4:l.length <= 4) (hdays:∀ r ∈ l,0 <= r.day /\ r.day <= 2000) (day:Int) :
  De 183 #[.pointer (some ⟨d,0,none⟩),.slice p n c,.int .i64 day] h d m f u fun r _ => r = .int .i64 (meets u l day) := by
 refine w107 _ _ _ _ _ X0_ok ?_;unfold n107;have hn := hl.1;refine t_loop (fun mm vs h' => Mv m h h' /\ Desk h'.get d m f u /\ ∃ (i acc:Nat),vs = [.int .i64 acc,.int .i64 i] /\ i <= n /\ mm = n - i /\ acc < 2 ^ 32 /\ meets u l day = meetsGo u day (l.drop i) i acc)
  ⟨Mv.refl,k,0,0,rfl,Nat.zero_le _,rfl,by omega,rfl⟩ ?_
 rintro Y mm vs h₁ hY ⟨mv,k1,i,acc,rfl,hi,rfl,hacc,hc⟩;refine gZ ?_;refine t_if (fun e1 => ?_) (fun e1 => ?_)
 ·obtain ⟨x,a,hx,ha,e2,e3,q,mq,cq,e4,e5⟩ := (hl.rd RequestE.grow (mv.rd k.isMap)).at (i := i) (by omega);rw [drop_of hx,meetsGo] at hc;refine gZ ?_;have hxd := hdays x (List.mem_of_getElem? hx);refine t_de (c55 k1 (num_ok (check_num hck)).2.2.2 x.day hxd) ?_;rintro _ h₂ mv2 k2 rfl;refine gZ ?_;refine t_pu (c81 _ _ _) ?_;refine gZ ?_;refine t_cond (fun b => ?_) (fun b => ?_)
  ·rw [if_pos b] at hc;refine gZ ?_;rw [or_bits hacc (by omega)];refine t_again (hY (n - (i + 1)) _ _ (by omega) ⟨mv.trans mv2,k2,i + 1,acc ||| 2 ^ i,?_,by omega,rfl,Nat.or_lt_two_pow hacc (Nat.pow_lt_pow_right (by omega) (by omega)),hc⟩);rw [wrap_id (by omega) (by omega)]; rfl
  ·rw [if_neg (by rw [b]; simp)] at hc;refine t_again (hY (n - (i + 1)) _ _ (by omega) ⟨mv.trans mv2,k2,i + 1,acc,?_,by omega,rfl,hacc,hc⟩);rw [wrap_id (by omega) (by omega)]; rfl
 ·refine gZ ?_;rw [List.drop_eq_nil_of_le (by omega),meetsGo] at hc;exact t_ret ⟨mv,k1,by rw [hc]⟩
end
end Go.Proofs.YtfkfohpnpljihaaGreatDoor
