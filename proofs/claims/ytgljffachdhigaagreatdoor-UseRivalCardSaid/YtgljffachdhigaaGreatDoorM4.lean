/- Contracts and laws for the proof, joined by a program. No condition. -/
import Derived.Test.YtgljffachdhigaaGreatDoorM3
set_option linter.all false
section
namespace Go.TM.Rv
def mustG (A:Nat -> List Nat):Nat -> Nat -> Nat -> Bool
 | 0,_,_ => false
 | n + 1,one,two => (A one).any fun x => x == two || mustG A n x two
theorem must_more (A:Nat -> List Nat):∀ (n one two:Nat),mustG A n one two = true -> mustG A (n + 1) one two = true := by
 intro n
 induction n with
 | zero => intro one two h; cases h
 | succ n ih =>
  intro one two h
  unfold mustG at h ⊢
  rw [List.any_eq_true] at h ⊢
  obtain ⟨x,hx,h⟩ := h
  refine ⟨x,hx,?_⟩
  rw [Bool.or_eq_true] at h ⊢
  exact h.imp_right (ih x two)
theorem must_le (A:Nat -> List Nat) {n m one two:Nat} (hnm:n <= m) (h:mustG A n one two = true):mustG A m one two = true := by
 induction hnm with
 | refl => exact h
 | step _ ih => exact must_more A _ _ _ ih
theorem must_walk (A:Nat -> List Nat) {f:Nat -> Nat} (hf:∀ j,f (j + 1) ∈ A (f j)):∀ k a,mustG A (k + 1) (f a) (f (a + k + 1)) = true := by
 intro k
 induction k with
 | zero =>
  intro a
  unfold mustG
  rw [List.any_eq_true]
  exact ⟨_,hf a,by simp⟩
 | succ k ih =>
  intro a
  unfold mustG
  rw [List.any_eq_true]
  refine ⟨_,hf a,?_⟩
  rw [Bool.or_eq_true]
  refine .inr ?_
  have := ih (a + 1)
  rw [show a + 1 + k + 1 = a + (k + 1) + 1 by omega] at this
  exact this
theorem pigeon:∀ (n:Nat) (f:Nat -> Nat),(∀ j,j <= n -> f j < n) -> ∃ a b,a < b /\ b <= n /\ f a = f b := by
 intro n
 induction n with
 | zero => intro f h; exact absurd (h 0 (Nat.le_refl _)) (Nat.not_lt_zero _)
 | succ n ih =>
  intro f h
  by_cases hv:∃ a,a <= n /\ f a = f (n + 1)
  ·obtain ⟨a,h1,h2⟩ := hv
   exact ⟨a,n + 1,by omega,Nat.le_refl _,h2⟩
  ·have hne:∀ a,a <= n -> f a ≠ f (n + 1) := fun a h1 h2 => hv ⟨a,h1,h2⟩
   obtain ⟨a,b,h1,h2,h3⟩ := ih (fun j => if f j > f (n + 1) then f j - 1 else f j) fun j hj => by
    have e1 := h j (by omega)
    have e2 := h (n + 1) (Nat.le_refl _)
    have e3 := hne j hj
    show (if f j > f (n + 1) then f j - 1 else f j) < n
    split <;> omega
   refine ⟨a,b,h1,by omega,?_⟩
   have e1 := hne a (by omega)
   have e2 := hne b h2
   split at h3 <;> split at h3 <;> omega
def cnt (D:Nat -> Bool):Nat -> Nat
 | 0 => 0
 | n + 1 => cnt D n + (if D n then 1 else 0)
theorem cnt_le (D:Nat -> Bool):∀ n,cnt D n <= n
 | 0 => Nat.le_refl _
 | n + 1 => by have := cnt_le D n; unfold cnt; split <;> omega
theorem cnt_full {D:Nat -> Bool}:∀ {n},cnt D n = n -> ∀ i,i < n -> D i = true
 | 0,_,i,hi => absurd hi (Nat.not_lt_zero _)
 | n + 1,h,i,hi => by
  have h1 := cnt_le D n
  unfold cnt at h
  split at h
  ·rename_i hd
   by_cases e:i = n
   ·subst e; exact hd
   ·exact cnt_full (n := n) (by omega) i (by omega)
  ·omega
theorem cnt_up {D E:Nat -> Bool} (h:∀ i,D i = true -> E i = true):∀ n,cnt D n <= cnt E n
 | 0 => Nat.le_refl _
 | n + 1 => by
  have := cnt_up h n
  unfold cnt
  by_cases hd:D n = true
  ·rw [if_pos hd,if_pos (h n hd)]; omega
  ·rw [if_neg hd]; split <;> omega
theorem cnt_lt {D E:Nat -> Bool} (h:∀ i,D i = true -> E i = true):∀ {n i},i < n -> D i = false -> E i = true -> cnt D n < cnt E n
 | 0,i,hi,_,_ => absurd hi (Nat.not_lt_zero _)
 | n + 1,i,hi,hd,he => by
  unfold cnt
  by_cases e:i = n
  ·subst e
   have := cnt_up h i
   rw [if_neg (by rw [hd]; simp),if_pos he]; omega
  ·have := cnt_lt h (n := n) (i := i) (by omega) hd he
   by_cases hdn:D n = true
   ·rw [if_pos hdn,if_pos (h n hdn)]; omega
   ·rw [if_neg hdn]; split <;> omega
def look (A:Nat -> List Nat) (i:Nat) (D:Nat -> Bool):Nat -> Bool := if (A i).all D then fun j => D j || j == i else D
def part (A:Nat -> List Nat):Nat -> (Nat -> Bool) -> Nat -> Bool
 | 0,D => D
 | i + 1,D => look A i (part A i D)
def rounds (A:Nat -> List Nat) (n:Nat):Nat -> (Nat -> Bool) -> Nat -> Bool
 | 0,D => D
 | k + 1,D => part A n (rounds A n k D)
theorem look_up (A:Nat -> List Nat) (i:Nat) (D:Nat -> Bool) {j:Nat} (h:D j = true):look A i D j = true := by
 unfold look
 split
 ·simp [h]
 ·exact h
theorem part_up (A:Nat -> List Nat):∀ (i:Nat) (D:Nat -> Bool) {j:Nat},D j = true -> part A i D j = true
 | 0,_,_,h => h
 | i + 1,D,_,h => look_up A i _ (part_up A i D h)
theorem part_sub (A:Nat -> List Nat) {n m:Nat} (h:n <= m) (D:Nat -> Bool) {j:Nat} (hj:part A n D j = true):part A m D j = true := by
 induction h with
 | refl => exact hj
 | step _ ih => exact look_up A _ _ ih
theorem part_has (A:Nat -> List Nat) {n i:Nat} (hi:i < n) (D:Nat -> Bool) (h:∀ x ∈ A i,D x = true):part A n D i = true := by
 refine part_sub A (show i + 1 <= n from hi) D ?_
 show look A i (part A i D) i = true
 unfold look
 rw [if_pos]
 ·simp
 ·rw [List.all_eq_true]
  exact fun x hx => part_up A i D (h x hx)
theorem round_grows {A:Nat -> List Nat} {n:Nat} (hA:∀ i,i < n -> ∀ x ∈ A i,x < n) (hno:∀ i,i < n -> mustG A n i i = false) (D:Nat -> Bool) :
  (∀ i,i < n -> D i = true) \/ cnt D n < cnt (part A n D) n := by
 by_cases hall:∀ i,i < n -> D i = true
 ·exact .inl hall
 refine .inr ?_
 by_cases hp:∃ i,i < n /\ D i = false /\ ∀ x ∈ A i,D x = true
 ·obtain ⟨i,h1,h2,h3⟩ := hp
  exact cnt_lt (fun j h => part_up A n D h) h1 h2 (part_has A h1 D h3)
 exfalso
 have hstep:∀ i,i < n -> D i = false -> ∃ x,x ∈ A i /\ x < n /\ D x = false := fun i h1 h2 => by
  refine Classical.byContradiction fun hx => hp ⟨i,h1,h2,fun x hm => ?_⟩
  cases hd:D x with
  | true => rfl
  | false => exact absurd ⟨x,hm,hA i h1 x hm,hd⟩ hx
 obtain ⟨i0,h0,hd0⟩ : ∃ i,i < n /\ D i = false := by
  refine Classical.byContradiction fun hx => hall fun i hi => ?_
  cases hd:D i with
  | true => rfl
  | false => exact absurd ⟨i,hi,hd⟩ hx
 let nx:{ i:Nat // i < n /\ D i = false } -> { i:Nat // i < n /\ D i = false } := fun i =>
  ⟨Classical.choose (hstep i.1 i.2.1 i.2.2),(Classical.choose_spec (hstep i.1 i.2.1 i.2.2)).2⟩
 let w:Nat -> { i:Nat // i < n /\ D i = false } := fun j => Nat.rec ⟨i0,h0,hd0⟩ (fun _ x => nx x) j
 have hw:∀ j,(w (j + 1)).1 ∈ A (w j).1 := fun j => (Classical.choose_spec (hstep (w j).1 (w j).2.1 (w j).2.2)).1
 obtain ⟨a,b,hab,hbn,he⟩ := pigeon n (fun j => (w j).1) fun j _ => (w j).2.1
 have hm := must_walk A (f := fun j => (w j).1) hw (b - a - 1) a
 rw [show a + (b - a - 1) + 1 = b by omega] at hm
 have hm':mustG A n (w a).1 (w a).1 = true := must_le A (n := b - a - 1 + 1) (by omega) (by
  have he':(w a).1 = (w b).1 := he
  rw [<- he'] at hm
  exact hm)
 rw [hno _ (w a).2.1] at hm'
 cases hm'
theorem all_done {A:Nat -> List Nat} {n:Nat} (hA:∀ i,i < n -> ∀ x ∈ A i,x < n) (hno:∀ i,i < n -> mustG A n i i = false) (D:Nat -> Bool):∀ i,i < n -> rounds A n n D i = true := by
 have key:∀ k,(∀ i,i < n -> rounds A n k D i = true) \/ k <= cnt (rounds A n k D) n := by
  intro k
  induction k with
  | zero => exact .inr (Nat.zero_le _)
  | succ k ih =>
   rcases ih with h | h
   ·exact .inl fun i hi => part_up A n _ (h i hi)
   ·rcases round_grows hA hno (rounds A n k D) with h2 | h2
    ·exact .inl fun i hi => part_up A n _ (h2 i hi)
    ·refine .inr ?_
     show k + 1 <= cnt (part A n (rounds A n k D)) n
     omega
 rcases key n with h | h
 ·exact h
 ·exact cnt_full (Nat.le_antisymm (cnt_le _ n) h)
end Go.TM.Rv
end
section
namespace Go.TM.Rv
open Go Go.TM
def bitsT (l:List Int):Nat := l.foldl (fun s n => s ||| 2 ^ n.toNat) 0
theorem bits_acc (l:List Int):∀ (s i:Nat),(l.foldl (fun s n => s ||| 2 ^ n.toNat) s).testBit i = (s.testBit i || l.any fun v => v.toNat == i) := by
 induction l with
 | nil => intro s i; simp
 | cons v l ih =>
  intro s i
  rw [List.foldl_cons,ih,Nat.testBit_or,Nat.testBit_two_pow,List.any_cons,Bool.or_assoc]
  rfl
theorem bits_test (l:List Int) (i:Nat):(bitsT l).testBit i = l.any fun v => v.toNat == i := by
 unfold bitsT
 rw [bits_acc]
 simp
theorem bits_mem {l:List Int} (hl:∀ v ∈ l,0 <= v) (i:Nat):(bitsT l).testBit i = true ↔ (i:Int) ∈ l := by
 rw [bits_test,List.any_eq_true]
 constructor
 ·rintro ⟨v,hv,e⟩
  have h0 := hl v hv
  have e':v.toNat = i := by simpa using e
  have:v = (i:Int) := by omega
  exact this ▸ hv
 ·intro h
  exact ⟨_,h,by simp⟩
theorem bits_lt {l:List Int} {k:Nat} (h:∀ v ∈ l,v.toNat < k):bitsT l < 2 ^ k := by
 refine Nat.lt_pow_two_of_testBit _ fun i hi => ?_
 rw [bits_test,Bool.eq_false_iff]
 intro e
 rw [List.any_eq_true] at e
 obtain ⟨v,hv,e⟩ := e
 have := h v hv
 have e':v.toNat = i := by simpa using e
 omega
theorem bits_step {l:List Int} {i:Nat} {v:Int} (h:l[i]? = some v):bitsT (l.take (i + 1)) = bitsT (l.take i) ||| 2 ^ v.toNat := by
 unfold bitsT
 rw [List.take_add_one,h,List.foldl_append]
 rfl
theorem asc_ext:∀ {l m:List Int},l.Pairwise (· < ·) -> m.Pairwise (· < ·) -> (∀ v,v ∈ l ↔ v ∈ m) -> l = m
 | [],[],_,_,_ => rfl
 | [],y :: m,_,_,h => by have := (h y).2 (by simp); simp at this
 | x :: l,[],_,_,h => by have := (h x).1 (by simp); simp at this
 | x :: l,y :: m,hl,hm,h => by
  obtain ⟨h1,h2⟩ := List.pairwise_cons.1 hl
  obtain ⟨h3,h4⟩ := List.pairwise_cons.1 hm
  have hx := (h x).1 (by simp)
  have hy := (h y).2 (by simp)
  have e:x = y := by
   rcases List.mem_cons.1 hx with e | hx'
   ·exact e
   rcases List.mem_cons.1 hy with e | hy'
   ·exact e.symm
   have a := h1 y hy'
   have b := h3 x hx'
   omega
  subst e
  congr 1
  refine asc_ext h2 h4 fun v => ?_
  constructor
  ·intro hv
   have a := h1 v hv
   rcases List.mem_cons.1 ((h v).1 (by simp [hv])) with e | hh
   ·omega
   ·exact hh
  ·intro hv
   have a := h3 v hv
   rcases List.mem_cons.1 ((h v).2 (by simp [hv])) with e | hh
   ·omega
   ·exact hh
/-! ### Books -/
def afterN (b:RvBook) (i:Nat):List Nat := ((b.cases[i]?.map (·.after)).getD []).map Int.toNat
def Acyc (b:RvBook):Prop := ∃ rank:Nat -> Nat,∀ i,i < b.cases.length -> ∀ x ∈ afterN b i,rank x < rank i
structure BookShape (b:RvBook):Prop where
 rights:b.rights.length <= 6
 cases:b.cases.length <= 5
 against:∀ c ∈ b.cases,0 <= c.against /\ c.against < (b.rights.length:Int)
 grounds:∀ c ∈ b.cases,c.grounds.length <= 3 /\ ∀ g ∈ c.grounds,g.length <= 3 /\ g.Pairwise (· < ·) /\ ∀ v ∈ g,0 <= v /\ v < (b.rights.length:Int)
 after:∀ c ∈ b.cases,c.after.Pairwise (· < ·) /\ ∀ v ∈ c.after,0 <= v /\ v < (b.cases.length:Int)
structure BookOk (b:RvBook):Prop extends BookShape b where
 names:∀ s ∈ b.rights,NameOk s
 fresh:b.rights.Nodup
 cnames:∀ c ∈ b.cases,NameOk c.name
 cfresh:(b.cases.map (·.name)).Nodup
 acyc:Acyc b
theorem BookShape.afterN {b:RvBook} (o:BookShape b):∀ i,i < b.cases.length -> ∀ x ∈ afterN b i,x < b.cases.length := by
 intro i hi x hx
 unfold Rv.afterN at hx
 rw [List.getElem?_eq_getElem hi] at hx
 obtain ⟨v,hv,rfl⟩ := List.mem_map.1 hx
 have := (o.after _ (List.getElem_mem hi)).2 v hv
 omega
theorem must_rank {A:Nat -> List Nat} {n:Nat} (hA:∀ i,i < n -> ∀ x ∈ A i,x < n) {rank:Nat -> Nat} (hr:∀ i,i < n -> ∀ x ∈ A i,rank x < rank i):∀ k i j,i < n -> mustG A k i j = true -> rank j < rank i := by
 intro k
 induction k with
 | zero => intro i j _ h; cases h
 | succ k ih =>
  intro i j hi h
  unfold mustG at h
  rw [List.any_eq_true] at h
  obtain ⟨x,hx,h⟩ := h
  rw [Bool.or_eq_true] at h
  have h1 := hr i hi x hx
  rcases h with h | h
  ·have:x = j := by simpa using h
   exact this ▸ h1
  ·exact Nat.lt_trans (ih x j (hA i hi x hx) h) h1
theorem no_must {b:RvBook} (o:BookShape b) (h:Acyc b):∀ i,i < b.cases.length -> mustG (afterN b) b.cases.length i i = false := by
 obtain ⟨rank,hr⟩ := h
 intro i hi
 cases e:mustG (afterN b) b.cases.length i i with
 | false => rfl
 | true => exact absurd (must_rank o.afterN hr _ _ _ hi e) (Nat.lt_irrefl _)
theorem part_new {A:Nat -> List Nat}:∀ (m:Nat) (D:Nat -> Bool) (i:Nat),part A m D i = true -> D i = false -> i < m /\ ∀ x ∈ A i,part A i D x = true
 | 0,D,i,h,h0 => by have h:D i = true := h; rw [h] at h0; cases h0
 | m + 1,D,i,h,h0 => by
  have h:look A m (part A m D) i = true := h
  unfold look at h
  split at h
  ·rename_i hall
   rw [Bool.or_eq_true] at h
   rcases h with h | h
   ·obtain ⟨h1,h2⟩ := part_new m D i h h0
    exact ⟨Nat.lt_succ_of_lt h1,h2⟩
   ·have e:i = m := by simpa using h
    subst e
    exact ⟨Nat.lt_succ_self _,fun x hx => List.all_eq_true.1 hall x hx⟩
  ·obtain ⟨h1,h2⟩ := part_new m D i h h0
   exact ⟨Nat.lt_succ_of_lt h1,h2⟩
def firstR (A:Nat -> List Nat) (n:Nat) (D:Nat -> Bool) (i:Nat):Nat -> Nat
 | 0 => 0
 | k + 1 => if rounds A n k D i then firstR A n D i k else k + 1
theorem firstR_spec {A:Nat -> List Nat} {n:Nat} {D:Nat -> Bool} {i:Nat} (h0:D i = false):∀ k,rounds A n k D i = true -> ∃ j,firstR A n D i k = j + 1 /\ j < k /\ rounds A n j D i = false /\ rounds A n (j + 1) D i = true := by
 intro k
 induction k with
 | zero => intro h; have h:D i = true := h; rw [h0] at h; cases h
 | succ k ih =>
  intro h
  unfold firstR
  split
  ·rename_i hk
   obtain ⟨j,h1,h2,h3,h4⟩ := ih hk
   exact ⟨j,h1,by omega,h3,h4⟩
  ·rename_i hk
   exact ⟨k,rfl,Nat.lt_succ_self _,by simpa using hk,h⟩
theorem rounds_le {A:Nat -> List Nat} {n:Nat} {D:Nat -> Bool} {i j k:Nat} (hjk:j <= k) (h:rounds A n j D i = true):rounds A n k D i = true := by
 induction hjk with
 | refl => exact h
 | step _ ih => exact part_up A n _ ih
theorem firstR_least {A:Nat -> List Nat} {n:Nat} {D:Nat -> Bool} {i:Nat}:∀ {k j},j <= k -> rounds A n j D i = true -> firstR A n D i k <= j := by
 intro k
 induction k with
 | zero => intro j _ _; exact Nat.zero_le _
 | succ k ih =>
  intro j hj h
  unfold firstR
  split
  ·by_cases e:j = k + 1
   ·rename_i hk
    have := ih (Nat.le_refl k) hk
    omega
   ·exact ih (by omega) h
  ·rename_i hk
   by_cases e:j = k + 1
   ·omega
   ·exact absurd (rounds_le (show j <= k by omega) h) hk
theorem rank_of {A:Nat -> List Nat} {n:Nat} (hA:∀ i,i < n -> ∀ x ∈ A i,x < n) (hno:∀ i,i < n -> mustG A n i i = false):∃ rank:Nat -> Nat,∀ i,i < n -> ∀ x ∈ A i,rank x < rank i := by
 have hall := all_done hA hno fun _ => false
 refine ⟨fun i => firstR A n (fun _ => false) i n * n + i,fun i hi x hx => ?_⟩
 obtain ⟨k,h1,h2,h3,h4⟩ := firstR_spec (A := A) (n := n) (i := i) (D := fun _ => false) rfl n (hall i hi)
 have hxn := hA i hi x hx
 obtain ⟨_,h5⟩ := part_new (A := A) n (rounds A n k fun _ => false) i h4 h3
 have h6 := h5 x hx
 show firstR A n (fun _ => false) x n * n + x < firstR A n (fun _ => false) i n * n + i
 rw [h1]
 cases hk:rounds A n k (fun _ => false) x with
 | true =>
  have := firstR_least (i := x) (D := fun _ => false) (Nat.le_of_lt h2) hk
  have := Nat.mul_le_mul_right n this
  rw [Nat.add_mul]
  omega
 | false =>
  obtain ⟨h7,_⟩ := part_new (A := A) i (rounds A n k fun _ => false) x h6 hk
  have h8:rounds A n (k + 1) (fun _ => false) x = true := part_sub A (Nat.le_of_lt hi) _ h6
  have := firstR_least (i := x) (D := fun _ => false) (show k + 1 <= n by omega) h8
  have := Nat.mul_le_mul_right n this
  omega
theorem acyc_of {b:RvBook} (o:BookShape b) (hno:∀ i,i < b.cases.length -> mustG (afterN b) b.cases.length i i = false):Acyc b := rank_of o.afterN hno
/-! ### Orders -/
structure RvRun where
 order:List Int
 s:List Bool
 won:Nat
def winsT (c:RvCase) (s:List Bool):Bool := c.grounds.any fun g => g.all fun r => s.getD r.toNat false
def endedT (x:RvRun) (i:Nat) (c:RvCase):RvRun :=
 if winsT c x.s then ⟨x.order ++ [(i:Int)],x.s.set c.against.toNat false,x.won ||| 2 ^ i⟩ else ⟨x.order ++ [(i:Int)],x.s,x.won⟩
def canT (order:List Int) (i:Nat) (c:RvCase):Bool := !(bitsT order).testBit i && c.after.all fun v => (bitsT order).testBit v.toNat
def stepT (b:RvBook) (f:RvRun -> List RvRun) (x:RvRun) (i:Nat):List RvRun := match b.cases[i]? with
 | some c => if canT x.order i c then f (endedT x i c) else []
 | none => []
def runsT (b:RvBook):Nat -> RvRun -> List RvRun
 | 0,x => [x]
 | k + 1,x => (List.range b.cases.length).flatMap (stepT b (runsT b k) x)
def startT (b:RvBook):RvRun := ⟨[],(List.range 6).map fun j => decide (j < b.rights.length),0⟩
def allRuns (b:RvBook):List RvRun := runsT b b.cases.length (startT b)
def sayT (some all:Nat):Int := if some = all then 1 else if some = 0 then 2 else 0
def fateT (b:RvBook) (r:Nat):Int := sayT ((allRuns b).countP fun x => x.s.getD r false) (allRuns b).length
def fatesT (b:RvBook):List Int := (List.range b.rights.length).map (fateT b)
theorem ended_s {x:RvRun} {i:Nat} {c:RvCase}:(endedT x i c).s.length = x.s.length := by
 unfold endedT
 split <;> simp
theorem ended_order {x:RvRun} {i:Nat} {c:RvCase}:(endedT x i c).order = x.order ++ [(i:Int)] := by
 unfold endedT
 split <;> rfl
theorem flat_le {α β:Type} {f:α -> List β} {m:Nat}:∀ {l:List α},(∀ a ∈ l,(f a).length <= m) -> (l.flatMap f).length <= l.length * m
 | [],_ => by simp
 | a :: l,h => by
  have h1 := h a (by simp)
  have h2 := flat_le (l := l) fun b hb => h b (by simp [hb])
  rw [List.flatMap_cons,List.length_append,List.length_cons,Nat.add_mul]
  omega
theorem runs_len (b:RvBook) (hn:b.cases.length <= 5):∀ k x,(runsT b k x).length <= 5 ^ k
 | 0,x => by simp [runsT]
 | k + 1,x => by
  have h := flat_le (f := stepT b (runsT b k) x) (m := 5 ^ k) (l := List.range b.cases.length) fun i _ => by
   unfold stepT
   split
   ·split
    ·exact runs_len b hn k _
    ·simp
   ·simp
  rw [List.length_range] at h
  rw [runsT,Nat.pow_succ]
  have := Nat.mul_le_mul_right (5 ^ k) hn
  omega
theorem all_len {b:RvBook} (hn:b.cases.length <= 5):(allRuns b).length <= 3125 := by
 have h := runs_len b hn b.cases.length (startT b)
 have h2:5 ^ b.cases.length <= 5 ^ 5 := Nat.pow_le_pow_right (by omega) hn
 unfold allRuns
 omega
theorem runs_s (b:RvBook):∀ k x,∀ y ∈ runsT b k x,y.s.length = x.s.length
 | 0,x,y,h => by simp [runsT] at h; rw [h]
 | k + 1,x,y,h => by
  rw [runsT,List.mem_flatMap] at h
  obtain ⟨i,_,h⟩ := h
  unfold stepT at h
  split at h
  ·split at h
   ·rw [runs_s b k _ y h,ended_s]
   ·cases h
  ·cases h
theorem all_s (b:RvBook):∀ y ∈ allRuns b,y.s.length = 6 := fun y h => by rw [runs_s b _ _ y h]; simp [startT]
/-! ### Books without some cases -/
def idxT (out k:Nat):Nat := ((List.range k).filter fun j => !out.testBit j).length
def closeStep (out i k:Nat) (A:List Nat):List Nat := if (A.getD i 0).testBit k && out.testBit k then A.set i (A.getD i 0 ||| A.getD k 0) else A
def closeK (out i:Nat):Nat -> List Nat -> List Nat
 | 0,A => A
 | k + 1,A => closeStep out i k (closeK out i k A)
def closeI (out n:Nat):Nat -> List Nat -> List Nat
 | 0,A => A
 | i + 1,A => closeK out i n (closeI out n i A)
def closeR (out n:Nat):Nat -> List Nat -> List Nat
 | 0,A => A
 | r + 1,A => closeI out n n (closeR out n r A)
def afters (b:RvBook):List Nat := b.cases.map fun c => bitsT c.after
def afterT (b:RvBook) (out:Nat):List Nat := closeR out b.cases.length b.cases.length (afters b)
def newAfter (out k a:Nat):List Int := ((List.range k).filter fun j => !out.testBit j && a.testBit j).map fun j => (idxT out j:Int)
def stripT (b:RvBook) (out:Nat) (f:Nat -> List Int) (i:Nat):List RvCase := (List.range i).filterMap fun j => if out.testBit j then none else b.cases[j]?.map fun c => { c with after := f j }
def withoutT (b:RvBook) (out:Nat):RvBook := ⟨b.rights,stripT b out (fun i => newAfter out b.cases.length ((afterT b out).getD i 0)) b.cases.length⟩
theorem idx_zero (k:Nat):idxT 0 k = k := by
 unfold idxT
 rw [List.filter_eq_self.2 (by simp),List.length_range]
theorem fm_congr {α β:Type} {f g:α -> Option β}:∀ {l:List α},(∀ a ∈ l,f a = g a) -> l.filterMap f = l.filterMap g
 | [],_ => rfl
 | a :: l,h => by rw [List.filterMap_cons,List.filterMap_cons,h a (by simp),fm_congr fun b hb => h b (by simp [hb])]
theorem close0K (i k:Nat) (A:List Nat):closeK 0 i k A = A := by
 induction k with
 | zero => rfl
 | succ k ih => unfold closeK closeStep; rw [ih]; simp
theorem close0I (n i:Nat) (A:List Nat):closeI 0 n i A = A := by
 induction i with
 | zero => rfl
 | succ k ih => unfold closeI; rw [ih,close0K]
theorem close0R (n r:Nat) (A:List Nat):closeR 0 n r A = A := by
 induction r with
 | zero => rfl
 | succ k ih => unfold closeR; rw [ih,close0I]
theorem range_asc (n:Nat) (p:Nat -> Bool):((List.range n).filter p).Pairwise (· < ·) := List.Pairwise.sublist List.filter_sublist List.pairwise_lt_range
theorem new_zero {l:List Int} {n:Nat} (hp:l.Pairwise (· < ·)) (hb:∀ v ∈ l,0 <= v /\ v < (n:Int)):newAfter 0 n (bitsT l) = l := by
 unfold newAfter
 refine asc_ext ?_ hp fun v => ?_
 ·refine List.Pairwise.map _ ?_ (range_asc _ _)
  intro a b h
  rw [idx_zero,idx_zero]
  omega
 ·rw [List.mem_map]
  constructor
  ·rintro ⟨j,hj,rfl⟩
   rw [List.mem_filter] at hj
   have := hj.2
   simp only [Nat.zero_testBit,Bool.not_false,Bool.true_and] at this
   rw [idx_zero]
   exact (bits_mem (fun v hv => (hb v hv).1) _).1 this
  ·intro hv
   have h1 := hb v hv
   refine ⟨v.toNat,?_,by rw [idx_zero]; omega⟩
   rw [List.mem_filter,List.mem_range]
   refine ⟨by omega,?_⟩
   simp only [Nat.zero_testBit,Bool.not_false,Bool.true_and]
   rw [bits_mem (fun v hv => (hb v hv).1)]
   rw [Int.toNat_of_nonneg h1.1]
   exact hv
theorem filterMap_range {α:Type} (l:List α):∀ {n},n <= l.length -> ((List.range n).filterMap fun j => l[j]?) = l.take n := by
 intro n
 induction n with
 | zero => intro _; rfl
 | succ n ih =>
  intro h
  rw [List.range_succ,List.filterMap_append,ih (by omega),List.take_add_one]
  congr 1
theorem without_zero {b:RvBook} (o:BookShape b):withoutT b 0 = b := by
 have h:stripT b 0 (fun i => newAfter 0 b.cases.length ((afterT b 0).getD i 0)) b.cases.length = b.cases := by
  unfold stripT
  have e:((List.range b.cases.length).filterMap fun j => if Nat.testBit 0 j then none else b.cases[j]?.map fun c => { c with after := newAfter 0 b.cases.length ((afterT b 0).getD j 0) }) = (List.range b.cases.length).filterMap fun j => b.cases[j]? := by
   refine fm_congr fun j hj => ?_
   have hj:j < b.cases.length := List.mem_range.1 hj
   rw [Nat.zero_testBit,if_neg (by simp),List.getElem?_eq_getElem hj,Option.map_some]
   congr 1
   have ha := o.after _ (List.getElem_mem hj)
   have:(afterT b 0).getD j 0 = bitsT b.cases[j].after := by
    unfold afterT afters
    rw [close0R,List.getD_eq_getElem?_getD,List.getElem?_map,List.getElem?_eq_getElem hj]
    rfl
   rw [this,new_zero ha.1 ha.2]
  rw [e,filterMap_range _ (Nat.le_refl _),List.take_length]
 unfold withoutT
 rw [h]
theorem idx_succ (out k:Nat):idxT out (k + 1) = idxT out k + (if out.testBit k then 0 else 1) := by
 unfold idxT
 rw [List.range_succ,List.filter_append,List.length_append,List.filter_cons,List.filter_nil]
 cases out.testBit k <;> rfl
theorem idx_le {out:Nat} {i k:Nat} (h:i <= k):idxT out i <= idxT out k := by
 induction h with
 | refl => exact Nat.le_refl _
 | step _ ih => rw [idx_succ]; split <;> omega
theorem idx_lt {out:Nat} {i k:Nat} (h:i < k) (hi:out.testBit i = false):idxT out i < idxT out k := by
 have := idx_le (out := out) (show i + 1 <= k from h)
 rw [idx_succ,if_neg (by rw [hi]; simp)] at this
 omega
theorem strip_succ {b:RvBook} {out:Nat} {f:Nat -> List Int} {i:Nat} {c:RvCase} (hc:b.cases[i]? = some c):stripT b out f (i + 1) = stripT b out f i ++ (if out.testBit i then [] else [{ c with after := f i }]) := by
 unfold stripT
 rw [List.range_succ,List.filterMap_append,List.filterMap_cons,List.filterMap_nil,hc]
 cases out.testBit i <;> rfl
theorem strip_len {b:RvBook} {out:Nat} {f:Nat -> List Int}:∀ {i},i <= b.cases.length -> (stripT b out f i).length = idxT out i
 | 0,_ => rfl
 | i + 1,h => by
  rw [strip_succ (List.getElem?_eq_getElem (show i < b.cases.length by omega)),List.length_append,strip_len (by omega),idx_succ]
  split <;> simp
theorem strip_at {b:RvBook} {out:Nat} {f:Nat -> List Int}:∀ {n},n <= b.cases.length -> ∀ {i c},i < n -> b.cases[i]? = some c -> out.testBit i = false -> (stripT b out f n)[idxT out i]? = some { c with after := f i }
 | 0,_,i,c,hi,_,_ => by omega
 | n + 1,h,i,c,hi,hc,ho => by
  rw [strip_succ (List.getElem?_eq_getElem (show n < b.cases.length by omega))]
  by_cases e:i = n
  ·subst e
   have hl := strip_len (b := b) (out := out) (f := f) (i := i) (by omega)
   rw [List.getElem?_append_right (by omega),hl,Nat.sub_self,if_neg (by rw [ho]; simp)]
   rw [List.getElem?_eq_getElem (show i < b.cases.length by omega)] at hc
   cases hc
   rfl
  ·have := strip_at (n := n) (f := f) (by omega) (show i < n by omega) hc ho
   rw [List.getElem?_append_left (List.getElem?_eq_some_iff.1 this).1]
   exact this
theorem strip_mem {b:RvBook} {out:Nat} {f:Nat -> List Int} {n:Nat} {x:RvCase} (hx:x ∈ stripT b out f n):∃ i c,i < n /\ b.cases[i]? = some c /\ out.testBit i = false /\ x = { c with after := f i } := by
 unfold stripT at hx
 rw [List.mem_filterMap] at hx
 obtain ⟨i,hi,h⟩ := hx
 split at h
 ·cases h
 ·rename_i ho
  cases hc:b.cases[i]? with
  | none => rw [hc] at h; cases h
  | some c =>
   rw [hc] at h
   exact ⟨i,c,List.mem_range.1 hi,hc,by simpa using ho,by simpa using h.symm⟩
def Below (n:Nat) (rank:Nat -> Nat) (A:List Nat):Prop := A.length = n /\ ∀ i,i < n -> ∀ k,(A.getD i 0).testBit k = true -> k < n /\ rank k < rank i
theorem step_below {n out i k:Nat} {rank:Nat -> Nat} {A:List Nat} (h:Below n rank A) (hi:i < n) (hk:k < n):Below n rank (closeStep out i k A) := by
 unfold closeStep
 split
 ·rename_i hb
  rw [Bool.and_eq_true] at hb
  have h1 := h.2 i hi k hb.1
  refine ⟨by rw [List.length_set]; exact h.1,fun j hj m hm => ?_⟩
  rw [List.getD_eq_getElem?_getD,List.getElem?_set] at hm
  by_cases e:i = j
  ·subst e
   rw [if_pos rfl,if_pos (by rw [h.1]; exact hi)] at hm
   simp only [Option.getD_some,Nat.testBit_or,Bool.or_eq_true] at hm
   rcases hm with hm | hm
   ·exact h.2 i hi m hm
   ·have := h.2 k hk m hm
    exact ⟨this.1,by omega⟩
  ·rw [if_neg e,<- List.getD_eq_getElem?_getD] at hm
   exact h.2 j hj m hm
 ·exact h
theorem closeK_below {n out i:Nat} {rank:Nat -> Nat} {A:List Nat} (h:Below n rank A) (hi:i < n):∀ k,k <= n -> Below n rank (closeK out i k A)
 | 0,_ => h
 | k + 1,hk => step_below (closeK_below h hi k (by omega)) hi (by omega)
theorem closeI_below {n out:Nat} {rank:Nat -> Nat} {A:List Nat} (h:Below n rank A):∀ i,i <= n -> Below n rank (closeI out n i A)
 | 0,_ => h
 | i + 1,hi => closeK_below (closeI_below h i (by omega)) (by omega) n (Nat.le_refl _)
theorem closeR_below {n out:Nat} {rank:Nat -> Nat} {A:List Nat} (h:Below n rank A):∀ r,Below n rank (closeR out n r A)
 | 0 => h
 | r + 1 => closeI_below (closeR_below h r) n (Nat.le_refl _)
theorem afters_below {b:RvBook} (o:BookShape b) {rank:Nat -> Nat} (hr:∀ i,i < b.cases.length -> ∀ x ∈ afterN b i,rank x < rank i):Below b.cases.length rank (afters b) := by
 refine ⟨by simp [afters],fun i hi k hk => ?_⟩
 unfold afters at hk
 rw [List.getD_eq_getElem?_getD,List.getElem?_map,List.getElem?_eq_getElem hi] at hk
 have hk:(bitsT b.cases[i].after).testBit k = true := hk
 rw [bits_test,List.any_eq_true] at hk
 obtain ⟨v,hv,e⟩ := hk
 have e':v.toNat = k := by simpa using e
 subst e'
 have hm:v.toNat ∈ afterN b i := by
  unfold afterN
  rw [List.getElem?_eq_getElem hi]
  exact List.mem_map.2 ⟨v,hv,rfl⟩
 exact ⟨o.afterN i hi _ hm,hr i hi _ hm⟩
theorem without_ok {b:RvBook} (o:BookOk b) (out:Nat):BookOk (withoutT b out) := by
 obtain ⟨rank,hr⟩ := o.acyc
 have hb := closeR_below (out := out) (afters_below o.toBookShape hr) b.cases.length
 have hn:(withoutT b out).cases.length = idxT out b.cases.length := strip_len (Nat.le_refl _)
 have hle:idxT out b.cases.length <= b.cases.length := by
  unfold idxT
  have := List.length_filter_le (fun j => !out.testBit j) (List.range b.cases.length)
  rwa [List.length_range] at this
 have hc:∀ x ∈ (withoutT b out).cases,∃ i c,i < b.cases.length /\ b.cases[i]? = some c /\ out.testBit i = false /\ x = { c with after := newAfter out b.cases.length ((afterT b out).getD i 0) } := fun x hx => strip_mem hx
 have hmem:∀ {i c},b.cases[i]? = some c -> c ∈ b.cases := fun h => List.mem_of_getElem? h
 refine { rights := o.rights,cases := by rw [hn]; exact Nat.le_trans hle o.cases,against := ?_,grounds := ?_,after := ?_,names := o.names,fresh := o.fresh,cnames := ?_,cfresh := ?_,acyc := ?_ }
 ·intro x hx
  obtain ⟨i,c,hi,hci,ho,rfl⟩ := hc x hx
  exact o.against c (hmem hci)
 ·intro x hx
  obtain ⟨i,c,hi,hci,ho,rfl⟩ := hc x hx
  exact o.grounds c (hmem hci)
 ·intro x hx
  obtain ⟨i,c,hi,hci,ho,rfl⟩ := hc x hx
  constructor
  ·show (newAfter out b.cases.length ((afterT b out).getD i 0)).Pairwise (· < ·)
   unfold newAfter
   rw [List.pairwise_map]
   refine List.Pairwise.imp_of_mem ?_ (range_asc _ _)
   intro j k hj hk h
   have h1 := (List.mem_filter.1 hj).2
   rw [Bool.and_eq_true] at h1
   have := idx_lt (out := out) h (by simpa using h1.1)
   omega
  ·intro v hv
   have hv:v ∈ newAfter out b.cases.length ((afterT b out).getD i 0) := hv
   unfold newAfter at hv
   obtain ⟨j,hj,rfl⟩ := List.mem_map.1 hv
   have h1 := List.mem_filter.1 hj
   have h2 := List.mem_range.1 h1.1
   have h3 := h1.2
   rw [Bool.and_eq_true] at h3
   have := idx_lt (out := out) h2 (by simpa using h3.1)
   rw [hn]
   omega
 ·intro x hx
  obtain ⟨i,c,hi,hci,ho,rfl⟩ := hc x hx
  exact o.cnames c (hmem hci)
 ·have key:∀ n,n <= b.cases.length -> List.Sublist ((stripT b out (fun i => newAfter out b.cases.length ((afterT b out).getD i 0)) n).map (·.name)) ((b.cases.take n).map (·.name)) := by
   intro n
   induction n with
   | zero => intro _; exact List.nil_sublist _
   | succ n ih =>
    intro h
    have hg := List.getElem?_eq_getElem (show n < b.cases.length by omega)
    rw [strip_succ hg,List.take_add_one,hg,List.map_append,List.map_append]
    refine List.Sublist.append (ih (by omega)) ?_
    split
    ·exact List.nil_sublist _
    ·exact List.Sublist.refl _
  have := key b.cases.length (Nat.le_refl _)
  rw [List.take_length] at this
  exact this.nodup o.cfresh
 ·-- the cases that are left, in the order of those that there were
  have back:∀ j,j < idxT out b.cases.length -> ∃ i,i < b.cases.length /\ out.testBit i = false /\ idxT out i = j := by
   have key:∀ n,∀ j,j < idxT out n -> ∃ i,i < n /\ out.testBit i = false /\ idxT out i = j := by
    intro n
    induction n with
    | zero => intro j hj; exact absurd hj (Nat.not_lt_zero _)
    | succ n ih =>
     intro j hj
     rw [idx_succ] at hj
     by_cases e:j < idxT out n
     ·obtain ⟨i,h1,h2,h3⟩ := ih j e
      exact ⟨i,by omega,h2,h3⟩
     ·split at hj
      ·omega
      ·rename_i ho
       exact ⟨n,Nat.lt_succ_self _,by simpa using ho,by omega⟩
   exact key _
  refine ⟨fun j => if h:j < idxT out b.cases.length then rank (Classical.choose (back j h)) else 0,fun j hj x hx => ?_⟩
  rw [hn] at hj
  have hch := Classical.choose_spec (back j hj)
  have inj:∀ {i k},i < b.cases.length -> k < b.cases.length -> out.testBit i = false -> out.testBit k = false -> idxT out i = idxT out k -> i = k := by
   intro i k _ _ h1 h2 h3
   rcases Nat.lt_trichotomy i k with h | h | h
   ·have := idx_lt (out := out) h h1; omega
   ·exact h
   ·have := idx_lt (out := out) h h2; omega
  obtain ⟨i,hi,ho,hij⟩ : ∃ i,i < b.cases.length /\ out.testBit i = false /\ idxT out i = j := back j hj
  have ei:Classical.choose (back j hj) = i := inj hch.1 hi hch.2.1 ho (by rw [hch.2.2,hij])
  have hat := strip_at (b := b) (out := out) (f := fun i => newAfter out b.cases.length ((afterT b out).getD i 0)) (Nat.le_refl _) hi (List.getElem?_eq_getElem hi) ho
  unfold afterN at hx
  rw [<- hij] at hx
  have hat':(withoutT b out).cases[idxT out i]? = _ := hat
  rw [hat'] at hx
  obtain ⟨v,hv,rfl⟩ := List.mem_map.1 hx
  have hv:v ∈ newAfter out b.cases.length ((afterT b out).getD i 0) := hv
  unfold newAfter at hv
  obtain ⟨k,hk,rfl⟩ := List.mem_map.1 hv
  have h1 := List.mem_filter.1 hk
  have hkn := List.mem_range.1 h1.1
  have h3 := h1.2
  rw [Bool.and_eq_true] at h3
  have hko:out.testBit k = false := by simpa using h3.1
  have hkl := idx_lt (out := out) hkn hko
  have hch2 := Classical.choose_spec (back (idxT out k) hkl)
  have ek:Classical.choose (back (idxT out k) hkl) = k := inj hch2.1 hkn hch2.2.1 hko hch2.2.2
  have hlow := (hb.2 i hi k h3.2).2
  show (if h:((idxT out k:Nat):Int).toNat < idxT out b.cases.length then rank (Classical.choose (back _ h)) else 0) < (if h:j < idxT out b.cases.length then rank (Classical.choose (back j h)) else 0)
  have e1:((idxT out k:Nat):Int).toNat = idxT out k := Int.toNat_natCast _
  rw [dif_pos hj,ei]
  simp only [e1]
  rw [dif_pos hkl,ek]
  exact hlow
/-! ### What decides -/
def saidT (b:RvBook) (r out:Nat):Int := fateT (withoutT b out) r
def soT (b:RvBook) (r:Nat) (l:List Int):Bool := (List.range (2 ^ b.cases.length)).all fun out => !(out &&& bitsT l == 0) || saidT b r out == saidT b r 0
theorem so_all {b:RvBook} {r:Nat}:soT b r ((List.range b.cases.length).map fun i:Nat => (i:Int)) = true := by
 unfold soT
 rw [List.all_eq_true]
 intro out ho
 have ho:out < 2 ^ b.cases.length := List.mem_range.1 ho
 cases e:(out &&& bitsT ((List.range b.cases.length).map fun i:Nat => (i:Int)) == 0) with
 | false => rfl
 | true =>
  have e:out &&& bitsT ((List.range b.cases.length).map fun i:Nat => (i:Int)) = 0 := by simpa using e
  have h0:out = 0 := by
   refine Nat.eq_of_testBit_eq fun i => ?_
   rw [Nat.zero_testBit]
   cases hi:out.testBit i with
   | false => rfl
   | true =>
    exfalso
    have hlt:i < b.cases.length := by
     refine Decidable.byContradiction fun hge => ?_
     have := Nat.testBit_lt_two_pow (Nat.lt_of_lt_of_le ho (Nat.pow_le_pow_right (by omega) (Nat.le_of_not_lt hge)))
     rw [hi] at this
     cases this
    have h1:(out &&& bitsT ((List.range b.cases.length).map fun i:Nat => (i:Int))).testBit i = true := by
     rw [Nat.testBit_and,hi,Bool.true_and,bits_mem (fun v hv => by obtain ⟨j,_,rfl⟩ := List.mem_map.1 hv; omega)]
     exact List.mem_map.2 ⟨i,List.mem_range.2 hlt,rfl⟩
    rw [e,Nat.zero_testBit] at h1
    cases h1
  rw [h0]
  simp
theorem so_use {b:RvBook} {r:Nat} {l out:List Int} (h:soT b r l = true) (ho:∀ v ∈ out,0 <= v /\ v < (b.cases.length:Int)) (hl:∀ v ∈ l,0 <= v) (hd:∀ v ∈ l,v ∉ out):saidT b r (bitsT out) = saidT b r 0 := by
 unfold soT at h
 rw [List.all_eq_true] at h
 have hlt:bitsT out < 2 ^ b.cases.length := bits_lt fun v hv => by have := ho v hv; omega
 have h1 := h _ (List.mem_range.2 hlt)
 have h2:bitsT out &&& bitsT l = 0 := by
  refine Nat.eq_of_testBit_eq fun i => ?_
  rw [Nat.zero_testBit,Nat.testBit_and,Bool.and_eq_false_iff]
  cases hi:(bitsT l).testBit i with
  | false => exact .inr rfl
  | true =>
   refine .inl ?_
   cases hj:(bitsT out).testBit i with
   | false => rfl
   | true => exact absurd ((bits_mem (fun v hv => (ho v hv).1) i).1 hj) (hd _ ((bits_mem hl i).1 hi))
 rw [h2] at h1
 simpa using h1
end Go.TM.Rv
end
section
namespace Go.TM.Rv
open Go Go.TM
theorem bv_nat {x:Nat} (h:x < 4611686018427387904):(BitVec.ofInt IntKind.i64.bits (x:Int)).toNat = x := by
 show (BitVec.ofInt 64 (x:Int)).toNat = x
 rw [BitVec.ofInt_natCast,BitVec.toNat_ofNat]
 exact Nat.mod_eq_of_lt (by omega)
theorem or_small {x y:Nat} (hx:x < 64) (hy:y < 64):x ||| y < 64 := Nat.or_lt_two_pow (n := 6) hx hy
theorem or_nat {x y:Nat} (hx:x < 64) (hy:y < 64):IntKind.i64.wrap (((BitVec.ofInt IntKind.i64.bits (x:Int)) ||| (BitVec.ofInt IntKind.i64.bits (y:Int))).toNat:Int) = ((x ||| y:Nat):Int) := by
 rw [BitVec.toNat_or,bv_nat (by omega),bv_nat (by omega)]
 have := or_small hx hy
 exact wrap_id (by omega) (by omega)
theorem shl_one {n:Nat} (hn:n < 6):IntKind.i64.wrap (1 * 2 ^ (min ((n:Int)).toNat IntKind.i64.bits)) = ((2 ^ n:Nat):Int) := by
 have:∀ m:Fin 6,IntKind.i64.wrap (1 * 2 ^ (min (((m:Nat):Int)).toNat IntKind.i64.bits)) = ((2 ^ (m:Nat):Nat):Int) := by decide
 exact this ⟨n,hn⟩
def subB (x y:Nat):Bool := (x &&& y) == x
theorem sub_iff {x y:Nat}:subB x y = true ↔ ∀ i,x.testBit i = true -> y.testBit i = true := by
 unfold subB
 rw [beq_iff_eq]
 constructor
 ·intro h i hi
  rw [<- h,Nat.testBit_and,Bool.and_eq_true] at hi
  exact hi.2
 ·intro h
  refine Nat.eq_of_testBit_eq fun i => ?_
  rw [Nat.testBit_and]
  cases hi:x.testBit i with
  | false => rfl
  | true => rw [h i hi]; rfl
theorem sub_bits {l:List Int} {y:Nat}:subB (bitsT l) y = l.all fun v => y.testBit v.toNat := by
 rw [Bool.eq_iff_iff,sub_iff,List.all_eq_true]
 constructor
 ·intro h v hv
  refine h _ ?_
  rw [bits_test,List.any_eq_true]
  exact ⟨v,hv,by simp⟩
 ·intro h i hi
  rw [bits_test,List.any_eq_true] at hi
  obtain ⟨v,hv,e⟩ := hi
  have e:v.toNat = i := by simpa using e
  exact e ▸ h v hv
theorem can_bits {order:List Int} {i:Nat} {c:RvCase}:canT order i c = (!(bitsT order).testBit i && subB (bitsT c.after) (bitsT order)) := by
 unfold canT
 rw [sub_bits]
theorem bv_nat' {x:Nat} (h:x < 4611686018427387904):(BitVec.ofInt 64 (x:Int)).toNat = x := bv_nat h
theorem or_shl {x n:Nat} (hx:x < 64) (hn:n < 6):IntKind.i64.wrap (((BitVec.ofInt 64 (x:Int)) ||| (BitVec.ofInt 64 (IntKind.i64.wrap (1 * 2 ^ (min ((n:Int)).toNat 64))))).toNat:Int) = ((x ||| 2 ^ n:Nat):Int) := by
 have e:IntKind.i64.wrap (1 * 2 ^ (min ((n:Int)).toNat 64)) = ((2 ^ n:Nat):Int) := shl_one hn
 rw [e]
 have h2:2 ^ n < 64 := Nat.pow_lt_pow_right (n := 6) (a := 2) (by omega) hn
 exact or_nat hx h2
theorem or_nat' {x y:Nat} (hx:x < 64) (hy:y < 64):IntKind.i64.wrap (((BitVec.ofInt 64 (x:Int)) ||| (BitVec.ofInt 64 (y:Int))).toNat:Int) = ((x ||| y:Nat):Int) := or_nat hx hy
theorem bit_at {x i:Nat} (hx:x < 64) (hi:i < 64):(IntKind.i64.wrap (((BitVec.ofInt 64 (Int.fdiv (x:Int) (2 ^ (min ((i:Int)).toNat 64)))) &&& (BitVec.ofInt 64 1)).toNat:Int) == 1) = x.testBit i := by
 have e1:min ((i:Int)).toNat 64 = i := by omega
 have e2:Int.fdiv (x:Int) (2 ^ i) = ((x / 2 ^ i:Nat):Int) := by
  rw [Int.fdiv_eq_ediv_of_nonneg _ (Int.pow_nonneg (by omega))]
  simp
 rw [e1,e2]
 have h3:x / 2 ^ i < 64 := Nat.lt_of_le_of_lt (Nat.div_le_self _ _) hx
 rw [BitVec.toNat_and,bv_nat' (by omega)]
 have e4:(BitVec.ofInt 64 1).toNat = 1 := by decide
 rw [e4,Nat.and_one_is_mod]
 have h5:x / 2 ^ i % 2 < 2 := Nat.mod_lt _ (by omega)
 rw [wrap_id (by omega) (by omega),Nat.testBit_eq_decide_div_mod_eq]
 rw [Bool.eq_iff_iff,beq_iff_eq,decide_eq_true_eq]
 omega
theorem sub_at {x y:Nat} (hx:x < 64) (hy:y < 64):(IntKind.i64.wrap (((BitVec.ofInt 64 (x:Int)) &&& ~~~(BitVec.ofInt 64 (y:Int))).toNat:Int) != 0) = !subB x y := by
 have e1:((BitVec.ofInt 64 (x:Int)) &&& ~~~(BitVec.ofInt 64 (y:Int))).toNat = x &&& (2 ^ 64 - (y + 1)) := by
  rw [BitVec.toNat_and,BitVec.toNat_not,bv_nat' (by omega),bv_nat' (by omega)]
  congr 1
  omega
 have h2:x &&& (2 ^ 64 - (y + 1)) < 64 := Nat.lt_of_le_of_lt Nat.and_le_left hx
 rw [e1,wrap_id (by omega) (by omega)]
 have key:(x &&& (2 ^ 64 - (y + 1)) = 0) ↔ subB x y = true := by
  rw [sub_iff]
  constructor
  ·intro h i hi
   have h3:(x &&& (2 ^ 64 - (y + 1))).testBit i = false := by rw [h,Nat.zero_testBit]
   rw [Nat.testBit_and,hi,Bool.true_and,Nat.testBit_two_pow_sub_succ (by omega)] at h3
   have h4:i < 64 := by
    refine Decidable.byContradiction fun hge => ?_
    have := Nat.testBit_lt_two_pow (x := x) (i := i) (Nat.lt_of_lt_of_le hx (show 64 <= 2 ^ i from Nat.le_trans (show 64 <= 2 ^ 6 by decide) (Nat.pow_le_pow_right (by omega) (by omega))))
    rw [hi] at this; cases this
   rw [decide_eq_true h4,Bool.true_and] at h3
   simpa using h3
  ·intro h
   refine Nat.eq_of_testBit_eq fun i => ?_
   rw [Nat.zero_testBit,Nat.testBit_and]
   cases hi:x.testBit i with
   | false => rfl
   | true => rw [Nat.testBit_two_pow_sub_succ (by omega),h i hi]; simp
 cases hs:subB x y with
 | true => rw [key.2 hs]; rfl
 | false =>
  have hne:¬ (x &&& (2 ^ 64 - (y + 1)) = 0) := fun e => by rw [key.1 e] at hs; cases hs
  generalize x &&& (2 ^ 64 - (y + 1)) = z at hne
  simp only [Bool.not_false,bne_iff_ne,ne_eq]
  omega
end Go.TM.Rv
end
section
namespace Go.TM.Rv
open Go Go.Conc Go.TM
attribute [local irreducible] T.wp CV FWK
structure Tn (r:Nat) (h h':LH):Prop where
 keep:∀ b,b ≠ r -> h'.get b = h.get b
 rest:h'.chans = h.chans /\ h'.pend = h.pend /\ h'.todo = h.todo
theorem Tn.le {r:Nat} {h₀ h h':LH} (t:Tn r h h') (hl:h₀.le h) (hr:h₀.get r = none):h₀.le h' :=
 ⟨fun b y hb => by
  have:b ≠ r := by rintro rfl; rw [hr] at hb; cases hb
  rw [t.keep b this]; exact hl.1 b y hb,by rw [t.rest.1]; exact hl.2.1,by rw [t.rest.2.1]; exact hl.2.2.1,by rw [t.rest.2.2]; exact hl.2.2.2⟩
theorem Tn.refl (r:Nat) (h:LH):Tn r h h := ⟨fun _ _ => rfl,rfl,rfl,rfl⟩
theorem Tn.trans {r:Nat} {h h' h'':LH} (a:Tn r h h') (b:Tn r h' h''):Tn r h h'' :=
 ⟨fun x hx => (b.keep x hx).trans (a.keep x hx),b.rest.1.trans a.rest.1,b.rest.2.1.trans a.rest.2.1,b.rest.2.2.trans a.rest.2.2⟩
theorem t_storeC {P:Program} {X:XP} {Q:Leaf -> LH -> Prop} {h:LH} {r j:Nat} {el:TypeId} {cs:Array Value} {a:Addr} {v:Value} {k:T} (ha:a = ⟨r,j,none⟩) (hr:h.get r = some (true,.cells cs el (0,0))) (hj:j < cs.size) (one:isOne v = true)
  (hk:∀ h',Tn r h h' -> h'.get r = some (true,.cells (cs.setIfInBounds j v) el (0,0)) -> k.wp X P Q h'):(T.store a v k).wp X P Q h := by
 subst ha
 refine t_store (v₀ := cs[j]) one ⟨_,hr⟩ ?_ (by simp [Cells.frozen?,hr]) ?_
 ·unfold Cells.cell?
  simp [hr,hj]
 ·have hset:h.get.setCell ⟨r,j,none⟩ v = h.get.upd r (true,.cells (cs.setIfInBounds j v) el (0,0)) := by
   funext b
   unfold Cells.setCell Cells.upd
   by_cases e:b = r
   ·subst e; simp [hr]
   ·simp [e]
  rw [hset]
  exact hk _ ⟨fun b hb => Cells.upd_ne _ _ hb,rfl,rfl,rfl⟩ (Cells.upd_self _ _ _)
theorem le_updNew0 {h h':LH} {m:Nat} {x:Bool × Obj} (hl:h.le h') (hm:h.get m = none):h.le { h' with get := h'.get.upd m x } := ⟨fun b y hb => by
 have:b ≠ m := by rintro rfl; rw [hm] at hb; cases hb
 show h'.get.upd m x b = _
 rw [Cells.upd_ne _ _ this]; exact hl.1 b y hb,hl.2⟩
def BoolsV (s:List Bool):Array Value := (s.map Value.bool).toArray
theorem boolsV_size (s:List Bool):(BoolsV s).size = s.length := by simp [BoolsV]
theorem boolsV_set (s:List Bool) (j:Nat) (b:Bool):(BoolsV s).setIfInBounds j (.bool b) = BoolsV (s.set j b) := by
 unfold BoolsV
 rw [List.setIfInBounds_toArray,List.map_set]
theorem boolsV_at {s:List Bool} {j:Nat} {b:Bool} (h:s[j]? = some b):(BoolsV s)[j]? = some (.bool b) := by
 simp [BoolsV,h]
theorem bools_cell {h:Cells} {r j:Nat} {el:TypeId} {s:List Bool} {m:Bool} {b:Bool} (hr:h r = some (m,.cells (BoolsV s) el (0,0))) (hb:s[j]? = some b):h.cell? (Addr.add ⟨r,0,none⟩ j) = some (.bool b) := by
 rw [add_plain,Nat.zero_add]
 unfold Cells.cell?
 rw [hr]
 exact boolsV_at hb
/-! ### Halves -/
def diff (h h':Cells):Cells := fun r => match h r with
 | some _ => none
 | none => h' r
theorem diff_disj (h h':Cells):Disj h (diff h h') := fun r => by
 unfold diff
 cases h r with
 | none => exact .inl rfl
 | some x => exact .inr rfl
theorem diff_get {h h':Cells} (hl:h.le h'):h.add (diff h h') = h' := by
 funext r
 unfold Cells.add diff
 cases e:h r with
 | none => rfl
 | some x => exact (hl r x e).symm
theorem diff_add {h h':LH} (hl:h.le h'):h.add (diff h.get h'.get) = h' := by
 obtain ⟨h1,h2,h3,h4⟩ := hl
 show ({ h with get := h.get.add (diff h.get h'.get) }:LH) = h'
 rw [diff_get h1]
 cases h; cases h'
 simp only at h2 h3 h4
 subst h2; subst h3; subst h4
 rfl
theorem Disj.diff {h h' M:Cells} (d:Disj h' M):Disj (diff h h') M := fun r => by
 unfold Rv.diff
 cases h r with
 | some _ => exact .inl rfl
 | none => exact d r
theorem Disj.mono {h h' M:Cells} (hl:h.le h') (d:Disj h' M):Disj h M := fun r => by
 cases e:h r with
 | none => exact .inl rfl
 | some x =>
  rcases d r with d | d
  ·rw [hl r x e] at d; cases d
  ·exact .inr d
theorem whole {h₀ a:LH} {M:Cells} (hl:h₀.le a) (d:Disj a.get M):a.add M = (h₀.add M).add (diff h₀.get a.get) := by
 have e:(h₀.add (diff h₀.get a.get)).add M = (h₀.add M).add (diff h₀.get a.get) := by
  show ({ h₀ with get := (h₀.get.add _).add M }:LH) = { h₀ with get := (h₀.get.add M).add _ }
  rw [Cells.add_swap (Disj.diff d)]
 rw [diff_add hl] at e
 exact e
theorem whole_disj {h₀ a:LH} {M:Cells} (d:Disj a.get M):Disj (h₀.add M).get (diff h₀.get a.get) :=
 Disj.add (diff_disj _ _) (Disj.diff d).symm
theorem le_add (h:LH) (k:Cells):h.le (h.add k) := ⟨fun _ _ hx => Cells.add_left hx,rfl,rfl,rfl⟩
theorem halves {h₀ a h':LH} (hl:h₀.le a) (hl':h₀.le h') (d:Disj h'.get (diff h₀.get a.get)):Disj a.get (diff h₀.get h'.get) /\ h'.add (diff h₀.get a.get) = a.add (diff h₀.get h'.get) := by
 have d1:Disj a.get (diff h₀.get h'.get) := fun r => by
  unfold Rv.diff
  cases e:h₀.get r with
  | some x => exact .inr rfl
  | none =>
   rcases d r with d | d
   ·exact .inr d
   ·unfold Rv.diff at d
    rw [e] at d
    exact .inl d
 refine ⟨d1,?_⟩
 rw [whole hl d1,diff_add hl']
section
variable {P:Program} {X:XP} {Q:Leaf -> LH -> Prop}
theorem t_grF {f:FuncId} {args:Array Value} {k:Value -> T} {V:Value -> LH -> Prop} {a:LH} {M:Cells} (d:Disj a.get M) (c:Gr P f args a V)
  (hk:∀ v a',a.le a' -> Disj a'.get M -> V v a' -> (k v).wp X P Q (a'.add M)):(T.call false f args k).wp X P Q (a.add M) := by
 refine t_call (FW.top (FW.frame X0_ok c d)) ?_
 rintro v _ ⟨h',d',rfl,hl,hv⟩
 exact hk v h' hl d' hv
theorem t_puF {f:FuncId} {args:Array Value} {k:Value -> T} {v:Value} {a:LH} {M:Cells} (d:Disj a.get M) (c:Pu P f args a v)
  (hk:(k v).wp X P Q (a.add M)):(T.call false f args k).wp X P Q (a.add M) := by
 refine t_call (FW.top (FW.frame X0_ok c d)) ?_
 rintro v _ ⟨h',d',rfl,rfl,rfl⟩
 exact hk
theorem upd_add {h k:Cells} {r:Nat} {x:Bool × Obj} (hn:k r = none):(h.add k).upd r x = (h.upd r x).add k := by
 funext b
 by_cases e:b = r
 ·subst e
  rw [Cells.upd_self]
  unfold Cells.add
  rw [Cells.upd_self]
 ·rw [Cells.upd_ne _ _ e]
  unfold Cells.add
  rw [Cells.upd_ne _ _ e]
theorem disj_upd {h k:Cells} {r:Nat} {x:Bool × Obj} (d:Disj h k) (hn:k r = none):Disj (h.upd r x) k := fun b => by
 by_cases e:b = r
 ·subst e; exact .inr hn
 ·rw [Cells.upd_ne _ _ e]; exact d b
theorem t_newF {e:TypeId} {cs:Array Value} {k:Nat -> T} {a:LH} {M:Cells} (d:Disj a.get M) (hk:∀ r a',a.get r = none -> a.le a' -> Disj a'.get M -> a'.get r = some (true,.cells cs e (0,0)) -> (∀ b,b ≠ r -> a'.get b = a.get b) -> (k r).wp X P Q (a'.add M)) :
  (T.new e cs k).wp X P Q (a.add M) := by
 refine t_new fun r hr => ?_
 have h1:a.get r = none := by
  cases e':a.get r with
  | none => rfl
  | some x => have hr:a.get.add M r = none := hr; rw [Cells.add_left e'] at hr; cases hr
 have h2:M r = none := by have hr:a.get.add M r = none := hr; rwa [Cells.add_right h1] at hr
 have := hk r { a with get := a.get.upd r (true,.cells cs e (0,0)) } h1 (LH.upd_le h1) (disj_upd d h2) (Cells.upd_self _ _ _) fun b hb => Cells.upd_ne _ _ hb
 have e2:({ a.add M with get := (a.add M).get.upd r (true,.cells cs e (0,0)) }:LH) = LH.add { a with get := a.get.upd r (true,.cells cs e (0,0)) } M := by
  show ({ a with get := (a.get.add M).upd r _ }:LH) = { a with get := (a.get.upd r _).add M }
  rw [upd_add h2]
 rw [e2]
 exact this
theorem t_storeF {a:LH} {M:Cells} (d:Disj a.get M) {r j:Nat} {el:TypeId} {cs:Array Value} {ad:Addr} {v:Value} {k:T} (ha:ad = ⟨r,j,none⟩) (hr:a.get r = some (true,.cells cs el (0,0))) (hj:j < cs.size) (one:isOne v = true)
  (hk:∀ a',Tn r a a' -> a'.get r = some (true,.cells (cs.setIfInBounds j v) el (0,0)) -> Disj a'.get M -> k.wp X P Q (a'.add M)):(T.store ad v k).wp X P Q (a.add M) := by
 have hM:M r = none := (d r).resolve_left (by rw [hr]; simp)
 refine t_storeC (h := a.add M) ha (Cells.add_left hr) hj one fun h' t e => ?_
 have := hk { a with get := a.get.upd r (true,.cells (cs.setIfInBounds j v) el (0,0)) } ⟨fun b hb => Cells.upd_ne _ _ hb,rfl,rfl,rfl⟩ (Cells.upd_self _ _ _) (disj_upd d hM)
 have e2:h' = LH.add { a with get := a.get.upd r (true,.cells (cs.setIfInBounds j v) el (0,0)) } M := by
  obtain ⟨g,c,p,q⟩ := h'
  obtain ⟨h1,h2,h3,h4⟩ := t
  simp only at h1 h2 h3 h4 e
  subst h2; subst h3; subst h4
  unfold LH.add
  simp only
  congr 1
  funext b
  by_cases eb:b = r
  ·subst eb
   rw [e,Cells.add_left (Cells.upd_self _ _ _)]
  ·rw [h1 b eb]
   show a.get.add M b = _
   unfold Cells.add
   rw [Cells.upd_ne _ _ eb]
 rw [e2]
 exact this
theorem none_le {h h':LH} (hl:h.le h') {b:Nat} (hb:h'.get b = none):h.get b = none := by
 cases e:h.get b with
 | none => rfl
 | some x => rw [hl.1 b x e] at hb; cases hb
theorem t_yield (hX:XOK X) {h₀ a:LH} {M:Cells} {y:Value} {args:Array Value} {k:Value -> T} {V:Value -> LH -> Prop} (hl:h₀.le a) (d:Disj a.get M)
  (c:CV X P y args (h₀.add M) fun b h' => h₀.le h' /\ V b h') (hk:∀ b M',Disj a.get M' -> V b (h₀.add M') -> (k b).wp X P Q (a.add M')):(T.callv false y args k).wp X P Q (a.add M) := by
 rw [whole hl d]
 refine t_callv (CV.frame hX c (whole_disj d)) ?_
 rintro b _ ⟨h',d',rfl,hl',hv⟩
 obtain ⟨d2,e⟩ := halves hl hl' d'
 rw [e]
 refine hk b _ d2 ?_
 rw [diff_add hl']
 exact hv
end
end Go.TM.Rv
end
section
namespace Go.TM.Rv
open Go Go.Conc Go.TM
theorem rows_ints (l:List Int):Rows IntEnc (l.map (Value.int .i64)) l := by
 have key:∀ m:List Int,Rows IntEnc (m.reverse.map (Value.int .i64)) m.reverse := by
  intro m
  induction m with
  | nil => exact .nil
  | cons x m ih =>
   rw [List.reverse_cons,List.map_append]
   exact .snoc ih rfl
 have := key l.reverse
 rwa [List.reverse_reverse] at this
section
variable {P:Program} {X:XP} {Q:Leaf -> LH -> Prop}
theorem t_slice3 {h:LH} {K:Value -> T} {t el:TypeId} {s b:Nat} {z:Option Value} {p:Option Addr} {n c i:Nat} (hu:P.underlying t = some (.slice el)) (hi:(P.info? el).map (fun i => (i.size,i.bytes,i.zero)) = some (s,b,z)) (hin:i <= c)
  (hk:(K (.slice p i i)).wp X P Q h):(T.sem false (Instr.sliceAt t (.slice p n c) none (some (.int .i64 (i:Int))) (some (.int .i64 (i:Int)))) K).wp X P Q h := by
 obtain ⟨inf,g1,g2,_,_⟩ := info_of hi
 refine t_sem (A := fun v h' => v = .slice p i i /\ h' = h.get) ?_ (by rintro v h' ⟨rfl,rfl⟩; exact hk)
 unfold Instr.sliceAt
 simp only [lwp_bind,lwp_underlying hu]
 unfold Instr.slice
 simp only [lwp_bind,lwp_underlying hu]
 unfold Instr.sliceBounds Instr.sliceBound
 simp only [lwp_bind,lwp_pure,asIntOf]
 rw [if_pos (show 0 <= (i:Int) /\ (i:Int) <= (c:Int) by omega)]
 simp only [lwp_pure,lwp_bind,Int.toNat_natCast]
 rw [if_pos (show 0 <= (i:Int) /\ (i:Int) <= (i:Int) by omega)]
 simp only [lwp_pure,lwp_sizeOf g1,Int.toNat_natCast,g2,Nat.zero_mul,Nat.sub_zero]
 have e:(p.map fun x:Addr => x.add 0) = p := by cases p <;> simp [Addr.add]
 rw [e]
 simp
theorem t_appendFull {h:LH} {K:Value -> T} {ts:Array TypeId} {ty sT xT el xe:TypeId} {by_:Nat} {p:Option Addr} {n mc:Nat} {b:Addr} {l:List Int} {x:Int} (h0:ts[0]? = some sT) (h1:ts[1]? = some xT) (hu:P.underlying sT = some (.slice el)) (hx:P.underlying xT = some (.slice xe))
  (hi:(P.info? el).map (fun i => (i.size,i.bytes,i.zero)) = some (1,by_,some (.int .i64 0))) (hb:by_ <= 1024) (hn:n + 1 <= 2 ^ 30) (hl:Sl IntE 1 h.get p n l) (hc:h.get.cell? (b.add 0) = some (.int .i64 x))
  (hk:∀ r c' h',h.get r = none -> h.le h' -> n + 1 <= c' -> Growing IntEnc el 1 h.get h'.get (some ⟨r,0,none⟩) (n + 1) c' (l ++ [x]) -> (K (.slice (some ⟨r,0,none⟩) (n + 1) c')).wp X P Q h'):(T.sem false (Builtin.append_ ts ty #[.slice p n n,.slice (some b) 1 mc]) K).wp X P Q h := by
 obtain ⟨inf,g1,g2,g3,g4⟩ := info_of hi
 refine t_sem (A := fun v h' => (K v).wp X P Q { h with get := h' }) ?_ (by intro v h' hh; exact hh)
 unfold Builtin.append_
 rw [h0,h1]
 simp only [List.getElem?_toArray,List.getElem?_cons_zero,List.getElem?_cons_succ]
 simp only [lwp_bind,lwp_underlying hu,lwp_sizeOf g1,lwp_underlying hx,lwp_pure,Bool.false_eq_true,if_false,Bool.not_false,if_true,Builtin.lenOf]
 have hroom:¬ n + 1 <= n := by omega
 have hnot:¬ ((((n + 1:Nat):Int) > IntKind.i64.max) /\ (False \/ inf.bytes = 0)) := by
  rintro ⟨h1,_⟩
  have e:IntKind.i64.max = 9223372036854775807 := rfl
  rw [e] at h1; omega
 have hcap := nextslicecap_le (Nat.lt_of_not_le hroom)
 have hbytes:¬ (Builtin.nextslicecap (n + 1) n * inf.bytes > 2 ^ 48) := by
  have := Nat.mul_le_mul hcap (show inf.bytes <= 1024 by omega)
  have h2:(2 * (n + 1) + 400) * 1024 <= (2 * 2 ^ 30 + 400) * 1024 := Nat.mul_le_mul_right _ (by omega)
  have:(2 * 2 ^ 30 + 400) * 1024 <= 2 ^ 48 := by decide
  omega
 simp only [if_neg hroom,lwp_bind,lwp_typeInfo g1,if_neg hnot,if_neg hbytes,lwp_pure]
 have hch:∀ {K:Nat -> Cells -> Prop},(∀ a,n + 1 <= a -> K a h.get) -> Sem.lwp P (choose (Question.appendCap (n + 1) n el)) K (fun _ _ => False) h.get := by
  intro K hK
  show (if _ then _ else _)
  split
  ·rename_i hf; simp [Question.forced] at hf
  ·intro t; exact hK _ (Nat.le_add_right _ _)
 refine hch fun a ha => ?_
 have hroom':∀ {K:Unit -> Cells -> Prop},K () h.get -> Sem.lwp P (askRoom (a * inf.bytes)) K (fun _ _ => False) h.get := by
  intro K hK
  unfold askRoom
  split
  ·exact ⟨rfl,hK⟩
  ·exact hK
 refine hroom' ?_
 have hlen := hl.1
 have hold:∀ {K:Array Value -> Cells -> Prop},(∀ old:Array Value,old.toList = l.map (Value.int .i64) -> K old h.get) -> Sem.lwp P (Builtin.firstCells inf.size n (Value.slice p n n)) K (fun _ _ => False) h.get := by
  intro K hK
  rw [g2]
  match p,hl with
  | none,hl =>
   have:l = [] := by
    cases l with
    | nil => rfl
    | cons y l => obtain ⟨a,ha,_⟩ := hl.2.2 0 y rfl; cases ha
   simp only [Builtin.firstCells,lwp_pure]
   exact hK #[] (by rw [this]; rfl)
  | some p,hl =>
   simp only [Builtin.firstCells]
   refine lwp_loads (l := l.map (Value.int .i64)) (by rw [List.length_map]; omega) (fun j v hj => ?_) (hK _ rfl)
   rw [List.getElem?_map] at hj
   cases e:l[j]? with
   | none => rw [e] at hj; cases hj
   | some y =>
    rw [e] at hj
    cases hj
    obtain ⟨a,ha,he⟩ := hl.2.2 j y e
    cases ha
    have he:h.get.cell? ((p.add (j * 1)).add 0) = _ := he
    rw [Nat.mul_one] at he
    have e2:(p.add j).add 0 = p.add j := by simp [Addr.add]
    rwa [e2] at he
 refine hold fun old hold => ?_
 simp only [Builtin.firstCells]
 refine lwp_loads (l := [Value.int .i64 x]) (by rw [g2]; rfl) (fun j v hj => ?_) ?_
 ·match j,hj with
  | 0,hj => cases hj; exact hc
 simp only [lwp_zeroValue g1 g4]
 refine lwp_newRow fun r hr => ?_
 have e1:old.size = n := by rw [<- Array.length_toList,hold,List.length_map,hlen]
 have hzs:(Builtin.zeroCells (Value.int .i64 0).cells (a - (n + 1))).size = a - (n + 1) := by simp [Builtin.zeroCells,Value.cells]
 refine hk r a _ hr (LH.upd_le hr) ha ⟨⟨(l ++ [x]).map (Value.int .i64),⟨by simp [hlen],.inr ⟨r,_,rfl,Cells.upd_self _ _ _,?_,ha,fun j v hj => ?_⟩⟩,?_⟩,?_⟩
 ·simp only [Array.size_append,e1,hzs]
  show n + 1 + (a - (n + 1)) = a * 1
  omega
 ·have hlt:j < ((l ++ [x]).map (Value.int .i64)).length := (List.getElem?_eq_some_iff.1 hj).1
  rw [<- Array.getElem?_toList,Array.toList_append,Array.toList_append,hold]
  rw [show l.map (Value.int .i64) ++ [Value.int .i64 x] = (l ++ [x]).map (Value.int .i64) by rw [List.map_append]; rfl,List.getElem?_append_left hlt]
  exact hj
 ·exact rows_ints _
 ·intro a ha; cases ha; exact hr
end
end Go.TM.Rv
end
section
namespace Go.TM
open Go Go.Conc
variable {P:Program} {E:Halt -> Cells -> Prop}
theorem lwp_pure' {α:Type} {a:α} {Q:α -> Cells -> Prop} {h:Cells}:Sem.lwp P (Sem.pure a) Q E h = Q a h := rfl
variable {X:XP} {Q:Leaf -> LH -> Prop}
def AllSeen (es:Array MapEntry) (seen:Array Nat):Prop := ∀ e ∈ es.toList,e.born ∈ seen.toList
theorem t_range {h:LH} {K:Value -> T} {t kt et:TypeId} {m c:Nat} {es:Array MapEntry} {b:Bool} (hu:P.underlying t = some (.map kt et)) (hm:h.get m = some (b,.map es c))
  (hk:∀ r,h.get r = none -> (K (.pointer (some ⟨r,0,none⟩))).wp X P Q { h with get := h.get.upd r (true,.mapIter (some m) c #[] c) }):(T.sem false (Instr.range t (.map (some m))) K).wp X P Q h := by
 refine t_sem (A := fun v h' => ∃ r,h.get r = none /\ v = .pointer (some ⟨r,0,none⟩) /\ h' = h.get.upd r (true,.mapIter (some m) c #[] c)) ?_ (by rintro v h' ⟨r,hr,rfl,rfl⟩; exact hk r hr)
 unfold Instr.range
 simp only [lwp_bind,lwp_underlying hu]
 refine ⟨_,_,hm,trivial,?_⟩
 show Sem.lwp P (pure _) _ _ _
 rw [lwp_pure]
 intro r hr
 exact ⟨r,hr,rfl,rfl⟩
theorem t_next {h:LH} {K:Value -> T} {ty:TypeId} {m r c:Nat} {es:Array MapEntry} {seen:Array Nat} {b:Bool} (hr:h.get r = some (true,.mapIter (some m) c seen c)) (hm:h.get m = some (b,.map es c)) (hlt:∀ e ∈ es.toList,e.born < c)
  (hend:AllSeen es seen -> (K (.tuple #[.bool false])).wp X P Q h)
  (hk:∀ e ∈ es.toList,e.born ∉ seen.toList -> (K (.tuple #[.bool true,e.key,e.val])).wp X P Q { h with get := h.get.upd r (true,.mapIter (some m) c (seen.push e.born) c) }):(T.sem false (Instr.next (.pointer (some ⟨r,0,none⟩)) false ty) K).wp X P Q h := by
 refine t_sem (A := fun v h' => (K v).wp X P Q { h with get := h' }) ?_ (fun v h' hw => hw)
 unfold Instr.next
 simp only [lwp_bind]
 refine ⟨_,_,hr,trivial,?_⟩
 show Sem.lwp P (_ >>= _) _ _ _
 rw [lwp_bind]
 refine ⟨_,_,hm,trivial,?_⟩
 have hall:(!seen.isEmpty && !es.isEmpty && es.all fun x => decide (x.born >= c)) = false := by
  cases he:es.toList with
  | nil =>
   have:es = #[] := by rw [<- Array.toList_inj,he]
   simp [this]
  | cons e l =>
   have h1 := hlt e (by rw [he]; simp)
   have h2:(es.all fun x => decide (x.born >= c)) = false := by
    rw [<- Array.all_toList,he]
    simp; omega
   simp [h2]
 simp only [lwp_pure',hall,Bool.false_eq_true,if_false,lwp_bind,lwp_pure]
 have hold:((es.filter fun e => !seen.contains e.born).filter fun x => decide (x.born < c)) = es.filter fun e => !seen.contains e.born := by
  rw [Array.filter_eq_self]
  intro e he
  have := hlt e (Array.mem_toList_iff.2 (Array.mem_filter.1 he).1)
  simp [this]
 have hnew:((es.filter fun e => !seen.contains e.born).filter fun x => decide (x.born >= c)) = #[] := by
  rw [Array.filter_filter]
  refine Array.filter_eq_empty_iff.2 fun e he => ?_
  have := hlt e (Array.mem_toList_iff.2 he)
  simp; omega
 rw [hold,hnew,Array.append_empty]
 by_cases hL:(es.filter fun e => !seen.contains e.born).isEmpty = true
 ·have hL':(es.filter fun e => !seen.contains e.born) = #[] := Array.isEmpty_iff.1 hL
  rw [hL']
  simp only [Array.isEmpty_empty,if_true,Array.map_empty,Array.append_empty]
  show Sem.lwp P (choose (Question.mapNext 1)) _ _ _
  show (if _ then _ else _)
  rw [if_pos (by rfl)]
  refine hend fun e he => ?_
  have := Array.filter_eq_empty_iff.1 hL' e (Array.mem_toList_iff.1 he)
  simpa using this
 ·rw [Bool.not_eq_true] at hL
  simp only [hL,Bool.false_eq_true,if_false,Array.empty_append,Array.size_map]
  have hpos:0 < (es.filter fun e => !seen.contains e.born).size := by
   rcases Nat.eq_zero_or_pos (es.filter fun e => !seen.contains e.born).size with h0 | h0
   ·rw [Array.size_eq_zero_iff] at h0; rw [h0] at hL; cases hL
   ·exact h0
  have fin:∀ i,i < (es.filter fun e => !seen.contains e.born).size -> Sem.lwp P (match (Array.map some (es.filter fun e => !seen.contains e.born))[i]? with
   | some (some e) => do
    setObj r (.mapIter (some m) c (seen.push e.born) c)
    pure (.tuple #[.bool true,e.key,e.val])
   | some none => pure (.tuple #[.bool false])
   | none => stuck "Next: no such candidate" : Sem Value) (fun v h' => (K v).wp X P Q { h with get := h' }) (fun _ _ => False) h.get := by
   intro i hi
   have hmem:(es.filter fun e => !seen.contains e.born)[i] ∈ es.filter fun e => !seen.contains e.born := Array.getElem_mem hi
   rw [Array.mem_filter] at hmem
   have hget:(Array.map some (es.filter fun e => !seen.contains e.born))[i]? = some (some (es.filter fun e => !seen.contains e.born)[i]) := by simp [hi]
   rw [hget]
   simp only [lwp_bind]
   refine ⟨⟨_,hr,trivial⟩,?_⟩
   simp only [lwp_pure',lwp_pure]
   refine hk _ (Array.mem_toList_iff.2 hmem.1) ?_
   have := hmem.2
   simpa using this
  show (if _ then _ else _)
  split
  ·exact fin 0 hpos
  ·exact fun t => fin _ (Nat.mod_lt _ hpos)
theorem t_entry {h:LH} {K:Value -> T} {m r c:Nat} {es:Array MapEntry} {seen:Array Nat} {e:MapEntry} {b:Bool} (hr:h.get r = some (true,.mapIter (some m) c (seen.push e.born) c)) (hm:h.get m = some (b,.map es c)) (he:e ∈ es.toList) (hb:(es.toList.map (·.born)).Nodup)
  (hk:(K (.tuple #[e.key,e.val])).wp X P Q h):(T.sem false (Instr.entry (.pointer (some ⟨r,0,none⟩))) K).wp X P Q h := by
 refine t_sem (A := fun v h' => v = .tuple #[e.key,e.val] /\ h' = h.get) ?_ (by rintro v h' ⟨rfl,rfl⟩; exact hk)
 unfold Instr.entry
 simp only [lwp_bind]
 refine ⟨_,_,hr,trivial,?_⟩
 simp only [lwp_pure',Array.back?_push,lwp_bind]
 refine ⟨_,_,hm,trivial,?_⟩
 have hf:es.find? (fun x => x.born == e.born) = some e := by
  rw [<- Array.find?_toList]
  have:∀ l:List MapEntry,e ∈ l -> (l.map (·.born)).Nodup -> l.find? (fun x => x.born == e.born) = some e := by
   intro l
   induction l with
   | nil => intro h; simp at h
   | cons a l ih =>
    intro h1 h2
    simp only [List.map_cons,List.nodup_cons] at h2
    rw [List.find?_cons]
    rcases List.mem_cons.1 h1 with rfl | h1
    ·simp
    ·have hne:(a.born == e.born) = false := by
      cases hb:(a.born == e.born) with
      | false => rfl
      | true => exact absurd (List.mem_map.2 ⟨e,h1,(eq_of_beq hb).symm⟩) h2.1
     rw [hne]; exact ih h1 h2.2
  exact this _ he hb
 simp only [lwp_pure',bne_self_eq_false,Bool.false_eq_true,if_false,lwp_bind,lwp_pure,hf]
 exact ⟨trivial,trivial⟩
end Go.TM
end
section
namespace Go.TM
open Go Go.Conc
variable {P:Program} {E:Halt -> Cells -> Prop} {h:Cells}
theorem str_beq (a b:ByteArray):(a == b) = true ↔ a = b := by
 obtain ⟨x⟩ := a
 obtain ⟨y⟩ := b
 show (x == y) = true ↔ _
 rw [beq_iff_eq]
 constructor
 ·rintro rfl; rfl
 ·intro e; cases e; rfl
def isBas (P:Program) (t:TypeId) (v:Value):Prop := (P.underlying t = some (.int .i64) /\ ∃ n,v = .int .i64 n) \/ (P.underlying t = some .bool /\ ∃ b,v = .bool b) \/ (P.underlying t = some .string /\ ∃ s,v = .string s)
theorem isBas.agg {t:TypeId} {v:Value} (b:isBas P t v):∃ d,P.underlying t = some d /\ isAggT P t = false := by
 rcases b with ⟨hu,_⟩ | ⟨hu,_⟩ | ⟨hu,_⟩ <;> exact ⟨_,hu,by unfold isAggT; rw [hu]⟩
theorem lwp_partF {Q:Value -> Cells -> Prop} {t:TypeId} {cs:Array Value} {o:Nat} {v:Value} (b:isBas P t v) (hv:cs[o]? = some v) (hq:Q v h):Sem.lwp P (part t cs o) Q E h := by
 obtain ⟨d,hu,ha⟩ := b.agg
 unfold part
 rw [lwp_bind,lwp_isAgg_false hu ha]
 simp only [Bool.false_eq_true,if_false,hv]
 exact hq
theorem lwp_equalF {Q:Bool -> Cells -> Prop} {t:TypeId} {d:Nat} {a b:Value} (ha:isBas P t a) (hb:isBas P t b) (hq:∀ c:Bool,(c = true ↔ a = b) -> Q c h):Sem.lwp P (Op.equalIn (d + 1) t a b) Q E h := by
 unfold Op.equalIn
 rcases ha with ⟨hu,n,rfl⟩ | ⟨hu,n,rfl⟩ | ⟨hu,n,rfl⟩ <;> rcases hb with ⟨hu',m,rfl⟩ | ⟨hu',m,rfl⟩ | ⟨hu',m,rfl⟩ <;> (rw [hu] at hu'; first | cases hu' | skip)
 ·rw [lwp_bind,lwp_underlying hu]; exact hq _ (by simp)
 ·rw [lwp_bind,lwp_underlying hu]; exact hq _ (by simp)
 ·rw [lwp_bind,lwp_underlying hu]; exact hq _ (by rw [str_beq]; simp)
theorem lwp_all {α σ:Type} {s0 s1:σ} {body:α -> σ -> Sem (ForInStep σ)} {c:α -> Bool}:∀ {l:List α} {Q:σ -> Cells -> Prop},(∀ f ∈ l,∀ {Q:ForInStep σ -> Cells -> Prop},Q (if c f then .yield s0 else .done s1) h -> Sem.lwp P (body f s0) Q E h) -> Q (if l.all c then s0 else s1) h -> Sem.lwp P (forIn l s0 body) Q E h
 | [],Q,_,hq => by
  rw [List.forIn_nil]
  exact hq
 | f :: l,Q,hb,hq => by
  rw [List.forIn_cons,lwp_bind]
  refine hb f (by simp) ?_
  cases hc:c f with
  | true =>
   simp only [if_true]
   refine lwp_all (fun g hg => hb g (by simp [hg])) ?_
   simpa [hc] using hq
  | false =>
   simp only [Bool.false_eq_true,if_false,lwp_pure]
   simpa [hc] using hq
inductive FlatAgg (P:Program) (t:TypeId) (vs:List Value):Prop where
 | str (fs : Array Field) (hu : P.underlying t = some (.struct fs)) (hs : P.stoodInHeld t = false) (hl : fs.toList.length = vs.length) (hf : ∀ (i : Nat) f v, fs.toList[i]? = some f -> vs[i]? = some v -> f.name ≠ "_" /\ f.offset = i /\ isBas P f.type v)
 | arr (n:Nat) (el:TypeId) (inf:TypeInfo) (hu:P.underlying t = some (.array n el)) (hi:P.info? el = some inf) (h1:inf.size = 1) (hl:vs.length = n) (hf:∀ v ∈ vs,isBas P el v)
def FKey (P:Program) (t:TypeId) (v:Value):Prop := isBas P t v \/ ∃ vs,v = .agg vs.toArray /\ FlatAgg P t vs
theorem list_all_eq {α:Type} {a b:List α} (hl:a.length = b.length) (h:∀ (i:Nat) x y,a[i]? = some x -> b[i]? = some y -> x = y):a = b := by
 refine List.ext_getElem? fun i => ?_
 by_cases hi:i < a.length
 ·have ha := List.getElem?_eq_getElem hi
  have hb := List.getElem?_eq_getElem (l := b) (i := i) (by omega)
  rw [ha,hb,h i _ _ ha hb]
 ·rw [List.getElem?_eq_none (by omega),List.getElem?_eq_none (by omega)]
open Classical in
theorem lwp_equalA {Q:Bool -> Cells -> Prop} {t:TypeId} {d:Nat} {ys bs:List Value} (ha:FlatAgg P t ys) (hb:FlatAgg P t bs) (hq:∀ c:Bool,(c = true ↔ ys = bs) -> Q c h):Sem.lwp P (Op.equalIn (d + 1 + 1) t (.agg ys.toArray) (.agg bs.toArray)) Q E h := by
 cases ha with
 | str fs hu hs hl hf =>
  cases hb with
  | arr n el inf hu' => rw [hu] at hu'; cases hu'
  | str fs' hu' hs' hl' hf' =>
   rw [hu] at hu'; cases hu'
   have key:(fs.toList.all fun f => decide (ys[f.offset]? = bs[f.offset]?)) = true ↔ ys = bs := by
    rw [List.all_eq_true]
    constructor
    ·intro hall
     refine list_all_eq (by omega) fun i x y hx hy => ?_
     have hi:i < fs.toList.length := by rw [hl]; exact (List.getElem?_eq_some_iff.1 hx).1
     have hfi := List.getElem?_eq_getElem hi
     have h1 := of_decide_eq_true (hall _ (List.mem_of_getElem? hfi))
     rw [(hf i _ x hfi hx).2.1,hx,hy] at h1
     exact Option.some.inj h1
    ·rintro rfl f _
     simp
   unfold Op.equalIn
   rw [lwp_bind,lwp_underlying hu]
   simp only [lwp_bind,lwp_program,hs,Bool.false_eq_true,if_false,<- Array.forIn_toList]
   refine lwp_all (s1 := ⟨some false,()⟩) (c := fun f => decide (ys[f.offset]? = bs[f.offset]?)) ?_ ?_
   ·intro f hfm Q hQ
    obtain ⟨i,hi⟩ := List.mem_iff_getElem?.1 hfm
    have hil:i < fs.toList.length := (List.getElem?_eq_some_iff.1 hi).1
    have hx := List.getElem?_eq_getElem (l := ys) (i := i) (by omega)
    have hy := List.getElem?_eq_getElem (l := bs) (i := i) (by omega)
    obtain ⟨n1,o1,b1⟩ := hf i f _ hi hx
    obtain ⟨_,_,b2⟩ := hf' i f _ hi hy
    rw [if_pos n1]
    simp only [lwp_bind]
    refine lwp_partF b1 (by rw [o1]; simpa using hx) (lwp_partF b2 (by rw [o1]; simpa using hy) (lwp_equalF b1 b2 fun c hc => ?_))
    rw [o1,hx,hy] at hQ
    cases c with
    | true =>
     have:ys[i] = bs[i] := hc.1 rfl
     simp only [this,decide_true,if_true] at hQ
     simpa [lwp_pure] using hQ
    | false =>
     have:¬ ys[i] = bs[i] := fun e => by cases hc.2 e
     have h2:¬ some ys[i] = some bs[i] := fun e => this (Option.some.inj e)
     simp only [h2,decide_false,Bool.false_eq_true,if_false] at hQ
     simpa [lwp_pure] using hQ
   ·cases hall:(fs.toList.all fun f => decide (ys[f.offset]? = bs[f.offset]?)) with
    | true => simpa [lwp_pure] using hq true (by simpa [hall] using key)
    | false => simpa [lwp_pure] using hq false (by simpa [hall] using key)
 | arr n el inf hu hi h1 hl hf =>
  cases hb with
  | str fs' hu' => rw [hu] at hu'; cases hu'
  | arr n' el' inf' hu' hi' h1' hl' hf' =>
   rw [hu] at hu'; cases hu'
   rw [hi] at hi'; cases hi'
   have key:((List.range' 0 n).all fun i => decide (ys[i]? = bs[i]?)) = true ↔ ys = bs := by
    rw [List.all_eq_true]
    constructor
    ·intro hall
     refine list_all_eq (by omega) fun i x y hx hy => ?_
     have hi:i < n := by rw [<- hl]; exact (List.getElem?_eq_some_iff.1 hx).1
     have h1 := of_decide_eq_true (hall i (by simp [hi]))
     rw [hx,hy] at h1
     exact Option.some.inj h1
    ·rintro rfl f _
     simp
   unfold Op.equalIn
   rw [lwp_bind,lwp_underlying hu]
   simp only [lwp_bind,lwp_sizeOf hi,h1,Nat.mul_one,Std.Legacy.Range.forIn_eq_forIn_range']
   have hr:List.range' 0 ([:n]:Std.Legacy.Range).size = List.range' 0 n := by simp [Std.Legacy.Range.size]
   have hr':([:n]:Std.Legacy.Range).start = 0 /\ ([:n]:Std.Legacy.Range).step = 1 := ⟨rfl,rfl⟩
   refine lwp_all (s1 := ⟨some false,()⟩) (c := fun i => decide (ys[i]? = bs[i]?)) ?_ ?_
   ·intro i him Q hQ
    have hin:i < n := by
     have := him
     simp [Std.Legacy.Range.size] at this
     omega
    have hx := List.getElem?_eq_getElem (l := ys) (i := i) (by omega)
    have hy := List.getElem?_eq_getElem (l := bs) (i := i) (by omega)
    have b1 := hf _ (List.mem_of_getElem? hx)
    have b2 := hf' _ (List.mem_of_getElem? hy)
    simp only [lwp_bind]
    refine lwp_partF (v := ys[i]) b1 ?_ ?_
    ·rw [List.getElem?_toArray]; exact hx
    refine lwp_partF (v := bs[i]) b2 ?_ ?_
    ·rw [List.getElem?_toArray]; exact hy
    refine lwp_equalF b1 b2 fun c hc => ?_
    rw [hx,hy] at hQ
    cases c with
    | true =>
     have:ys[i] = bs[i] := hc.1 rfl
     simp only [this,decide_true,if_true] at hQ
     simpa [lwp_pure] using hQ
    | false =>
     have:¬ ys[i] = bs[i] := fun e => by cases hc.2 e
     have h2:¬ some ys[i] = some bs[i] := fun e => this (Option.some.inj e)
     simp only [h2,decide_false,Bool.false_eq_true,if_false] at hQ
     simpa [lwp_pure] using hQ
   ·have hall':(List.range' ([:n]:Std.Legacy.Range).start ([:n]:Std.Legacy.Range).size ([:n]:Std.Legacy.Range).step) = List.range' 0 n := by simp [Std.Legacy.Range.size]
    rw [hall']
    cases hall:((List.range' 0 n).all fun i => decide (ys[i]? = bs[i]?)) with
    | true => simpa [lwp_pure] using hq true (by simpa [hall] using key)
    | false => simpa [lwp_pure] using hq false (by simpa [hall] using key)
theorem agg_inj {ys bs:List Value}:Value.agg ys.toArray = .agg bs.toArray ↔ ys = bs := by
 constructor
 ·intro e
  injection e with e
  simpa using e
 ·rintro rfl; rfl
theorem lwp_equalK {Q:Bool -> Cells -> Prop} {t:TypeId} {a b:Value} (ha:FKey P t a) (hb:FKey P t b) (hq:∀ c:Bool,(c = true ↔ a = b) -> Q c h):Sem.lwp P (Op.equal t a b) Q E h := by
 have hmd:Op.maxDepth = 9998 + 1 + 1 := rfl
 unfold Op.equal
 rw [hmd]
 rcases ha with ha | ⟨ys,rfl,ha⟩ <;> rcases hb with hb | ⟨bs,rfl,hb⟩
 ·exact lwp_equalF ha hb hq
 ·obtain ⟨d,hu,hn⟩ := ha.agg
  cases hb <;> (unfold isAggT at hn; rename_i hu'; first | (rw [‹P.underlying t = some (.struct _)›] at hn; cases hn) | (rw [‹P.underlying t = some (.array _ _)›] at hn; cases hn))
 ·obtain ⟨d,hu,hn⟩ := hb.agg
  cases ha <;> (unfold isAggT at hn; first | (rw [‹P.underlying t = some (.struct _)›] at hn; cases hn) | (rw [‹P.underlying t = some (.array _ _)›] at hn; cases hn))
 ·exact lwp_equalA ha hb fun c hc => hq c (by rw [agg_inj]; exact hc)
theorem lwp_checkKeyK {Q:Unit -> Cells -> Prop} {e:Bool} {kt:TypeId} {v:Value} (hk:FKey P kt v) (hq:Q () h):Sem.lwp P (Instr.checkKey e 10000 kt v) Q E h := by
 have one:∀ {Q:Unit -> Cells -> Prop} {d:Nat} {t:TypeId} {v:Value},isBas P t v -> Q () h -> Sem.lwp P (Instr.checkKey e (d + 1) t v) Q E h := by
  intro Q d t v hb hq
  unfold Instr.checkKey
  rcases hb with ⟨hu,n,rfl⟩ | ⟨hu,n,rfl⟩ | ⟨hu,n,rfl⟩ <;> (rw [lwp_bind,lwp_underlying hu]; exact hq)
 rcases hk with hb | ⟨vs,rfl,hf⟩
 ·exact one (d := 9999) hb hq
 ·rw [show (10000:Nat) = 9998 + 1 + 1 from rfl,Instr.checkKey]
  cases hf with
  | str fs hu hs hl hf =>
   rw [lwp_bind,lwp_underlying hu]
   simp only [lwp_bind,<- Array.forIn_toList]
   refine lwp_all (s1 := ()) (c := fun _ => true) ?_ (by simpa [lwp_pure] using hq)
   intro f hfm Q hQ
   obtain ⟨i,hi⟩ := List.mem_iff_getElem?.1 hfm
   have hil:i < fs.toList.length := (List.getElem?_eq_some_iff.1 hi).1
   have hx := List.getElem?_eq_getElem (l := vs) (i := i) (by omega)
   obtain ⟨n1,o1,b1⟩ := hf i f _ hi hx
   rw [if_pos n1]
   simp only [lwp_bind]
   refine lwp_partF (v := vs[i]) b1 (by rw [o1]; simpa using hx) (one b1 ?_)
   simpa [lwp_pure] using hQ
  | arr n el inf hu hi h1 hl hf =>
   rw [lwp_bind,lwp_underlying hu]
   simp only [lwp_bind,Std.Legacy.Range.forIn_eq_forIn_range']
   refine lwp_all (s1 := ()) (c := fun _ => true) ?_ (by simpa [lwp_pure] using hq)
   intro i him Q hQ
   have hin:i < n := by
    have := him
    simp [Std.Legacy.Range.size] at this
    omega
   have hx := List.getElem?_eq_getElem (l := vs) (i := i) (by omega)
   have b1 := hf _ (List.mem_of_getElem? hx)
   simp only [lwp_bind,lwp_sizeOf hi,h1,Nat.mul_one]
   refine lwp_partF (v := vs[i]) b1 ?_ ?_
   ·rw [List.getElem?_toArray]; exact hx
   refine one b1 ?_
   simpa [lwp_pure] using hQ
theorem sameNow_iff {kd:TypeDesc} {a b:Value} {c:Bool} (h:Instr.sameNow kd a b = some c):c = true ↔ a = b := by
 unfold Instr.sameNow at h
 split at h
 ·split at h
  ·rename_i e; cases h; subst e; simp
  ·cases h
 ·cases h; simp [str_beq]
 ·cases h; simp
 ·cases h
theorem findNow_spec {kd:TypeDesc} {k:Value}:∀ (es:List MapEntry) (i:Nat) (r:Option (Nat × Value)),Instr.findNow kd k es i = some r ->
  (∃ j e,es[j]? = some e /\ e.key = k /\ r = some (i + j,e.val)) \/ ((∀ e ∈ es,e.key ≠ k) /\ r = none)
 | [],i,r,h => by cases h; exact .inr ⟨fun e he => by simp at he,rfl⟩
 | e :: es,i,r,h => by
  unfold Instr.findNow at h
  split at h
  ·rename_i hs
   cases h
   exact .inl ⟨0,e,rfl,((sameNow_iff hs).1 rfl).symm,rfl⟩
  ·rename_i hs
   have hne:e.key ≠ k := fun hh => by have := (sameNow_iff hs).2 hh.symm; cases this
   rcases findNow_spec es (i + 1) r h with ⟨j,e',h1,h2,h3⟩ | ⟨h1,h2⟩
   ·exact .inl ⟨j + 1,e',by simpa using h1,h2,by rw [h3]; congr 2; omega⟩
   ·refine .inr ⟨fun e' he' => ?_,h2⟩
    rcases List.mem_cons.1 he' with rfl | he'
    ·exact hne
    ·exact h1 e' he'
  ·cases h
theorem lwp_findAskingK {Q:Option (Nat × Value) -> Cells -> Prop} {kt:TypeId} {k:Value} (hk:FKey P kt k):∀ (es:List MapEntry) (i:Nat),(∀ e ∈ es,FKey P kt e.key) ->
  (∀ j e,es[j]? = some e -> e.key = k -> Q (some (i + j,e.val)) h) -> ((∀ e ∈ es,e.key ≠ k) -> Q none h) -> Sem.lwp P (Instr.findAsking kt k es i) Q E h
 | [],i,_,_,h2 => h2 fun e he => by simp at he
 | e :: es,i,hes,h1,h2 => by
  unfold Instr.findAsking
  rw [lwp_bind]
  refine lwp_equalK hk (hes e (by simp)) fun c hc => ?_
  cases c with
  | true =>
   simp only [if_true,lwp_pure]
   have := h1 0 e rfl (hc.1 rfl).symm
   simpa using this
  | false =>
   have hne:e.key ≠ k := fun hh => by have := hc.2 hh.symm; cases this
   simp only [Bool.false_eq_true,if_false]
   refine lwp_findAskingK hk es (i + 1) (fun e' he' => hes e' (by simp [he'])) (fun j e' he' hk' => ?_) fun hno => h2 fun e' he' => ?_
   ·have := h1 (j + 1) e' (by simpa using he') hk'
    rw [show i + 1 + j = i + (j + 1) by omega]; exact this
   ·rcases List.mem_cons.1 he' with rfl | he'
    ·exact hne
    ·exact hno e' he'
theorem FKey.und {kt:TypeId} {k:Value} (hk:FKey P kt k):∃ d,P.underlying kt = some d := by
 rcases hk with hb | ⟨vs,rfl,hf⟩
 ·obtain ⟨d,hu,_⟩ := hb.agg; exact ⟨d,hu⟩
 ·cases hf <;> exact ⟨_,‹P.underlying kt = some _›⟩
theorem lwp_findKeyK {Q:Option (Nat × Value) -> Cells -> Prop} {kt:TypeId} {k:Value} {es:List MapEntry} (hk:FKey P kt k) (hes:∀ e ∈ es,FKey P kt e.key) (h1:∀ j e,es[j]? = some e -> e.key = k -> Q (some (j,e.val)) h) (h2:(∀ e ∈ es,e.key ≠ k) -> Q none h):Sem.lwp P (Instr.findKey kt k es) Q E h := by
 unfold Instr.findKey
 obtain ⟨d,hu⟩ := hk.und
 rw [lwp_bind,lwp_underlying hu]
 cases hr:Instr.findNow d k es 0 with
 | some r =>
  simp only [lwp_pure]
  rcases findNow_spec es 0 r hr with ⟨j,e,g1,g2,g3⟩ | ⟨g1,g2⟩
  ·rw [g3]
   have := h1 j e g1 g2
   simpa using this
  ·rw [g2]; exact h2 g1
 | none =>
  exact lwp_findAskingK hk es 0 hes (fun j e he hke => by have := h1 j e he hke; simpa using this) h2
theorem sameBits_bas {t:TypeId} {v:Value} (b:isBas P t v) (d:Nat):Instr.sameBits d v v = true := by
 rcases b with ⟨_,n,rfl⟩ | ⟨_,n,rfl⟩ | ⟨_,n,rfl⟩ <;> unfold Instr.sameBits <;> simp [str_beq]
theorem sameBits_all:∀ {l:List Value},(∀ v ∈ l,Instr.sameBits 9999 v v = true) -> ((l.zip l).all fun (x,y) => Instr.sameBits 9999 x y) = true
 | [],_ => rfl
 | v :: l,hl => by
  simp only [List.zip_cons_cons,List.all_cons,Bool.and_eq_true]
  exact ⟨hl v (by simp),sameBits_all fun w hw => hl w (by simp [hw])⟩
theorem sameBits_flat {kt:TypeId} {k:Value} (hk:FKey P kt k):Instr.sameBits 10000 k k = true := by
 rcases hk with hb | ⟨vs,rfl,hf⟩
 ·exact sameBits_bas hb _
 ·rw [show (10000:Nat) = 9999 + 1 from rfl]
  unfold Instr.sameBits
  simp only [beq_self_eq_true,Bool.true_and]
  refine sameBits_all fun v hv => ?_
  cases hf with
  | str fs hu hs hl hf =>
   obtain ⟨i,hi⟩ := List.mem_iff_getElem?.1 (show v ∈ vs by simpa using hv)
   have hil:i < vs.length := (List.getElem?_eq_some_iff.1 hi).1
   exact sameBits_bas (hf i _ v (List.getElem?_eq_getElem (by omega)) hi).2.2 _
  | arr n el inf hu hi h1 hl hf => exact sameBits_bas (hf v (by simpa using hv)) _
theorem lwp_lookupK {Q:Value -> Cells -> Prop} {t kt et:TypeId} {s b:Nat} {z:Value} {m:Nat} {es:Array MapEntry} {k:Value} {ok:Bool} (hu:P.underlying t = some (.map kt et)) (hi:(P.info? et).map (fun i => (i.size,i.bytes,i.zero)) = some (s,b,some z)) (hm:MapAt h m es) (hk:FKey P kt k) (hes:∀ e ∈ es.toList,FKey P kt e.key)
  (h1:∀ e ∈ es.toList,e.key = k -> Q (if ok then .tuple #[e.val,.bool true] else e.val) h) (h2:(∀ e ∈ es.toList,e.key ≠ k) -> Q (if ok then .tuple #[z,.bool false] else z) h):Sem.lwp P (Instr.lookup t (.map (some m)) k ok) Q E h := by
 obtain ⟨inf,g1,_,_,g4⟩ := info_of hi
 obtain ⟨c,hmc⟩ := hm
 unfold Instr.lookup
 rw [lwp_bind,lwp_underlying hu]
 simp only [lwp_bind]
 refine ⟨_,_,hmc,trivial,?_⟩
 show Sem.lwp P (_ >>= _) Q E h
 rw [lwp_bind,lwp_pure,lwp_bind]
 refine lwp_checkKeyK hk ?_
 rw [lwp_bind]
 refine lwp_findKeyK hk hes (fun j e he hek => ?_) fun hno => ?_
 ·simp only [lwp_pure,lwp_bind]
  have := h1 e (List.mem_of_getElem? he) hek
  cases ok <;> exact this
 ·simp only [lwp_bind,lwp_zeroValue g1 g4,lwp_pure]
  have := h2 hno
  cases ok <;> exact this
variable {X:XP} {Q:Leaf -> LH -> Prop}
theorem t_eqK {h:LH} {K:Value -> T} {t:TypeId} {x y:Operand} {ys bs:List Value} (ha:FlatAgg P t ys) (hb:FlatAgg P t bs) (hg:P.eqGuardType P.depth t = false) (hk:∀ c:Bool,(c = true ↔ ys = bs) -> (K (.bool c)).wp X P Q h) :
  (T.sem false (Sem.bind (eqGuard .eql t x y (.agg ys.toArray) (.agg bs.toArray)) fun _ => binOp .eql t (.agg ys.toArray) (.agg bs.toArray)) K).wp X P Q h := by
 refine t_sem (A := fun w h' => h' = h.get /\ (K w).wp X P Q h) (Sem.lwp_bind _ _ ?_) (by rintro w h' ⟨rfl,hw⟩; exact hw)
 unfold eqGuard
 simp only [Bool.not_true,Bool.false_eq_true,if_false,lwp_bind,lwp_program,hg,Bool.not_false,if_true,lwp_pure]
 unfold binOp
 rw [lwp_bind]
 refine lwp_equalK (.inr ⟨_,rfl,ha⟩) (.inr ⟨_,rfl,hb⟩) fun c hc => ⟨rfl,hk c (by rw [hc,agg_inj])⟩
theorem str_list (a b:ByteArray):(a.toList == b.toList) = true ↔ a = b := by
 rw [beq_iff_eq,ByteArray.toList_eq,ByteArray.toList_eq]
 obtain ⟨x⟩ := a
 obtain ⟨y⟩ := b
 constructor
 ·intro e
  have:x = y := by apply Array.ext'; simpa using e
  rw [this]
 ·intro e; cases e; rfl
theorem t_eqStr {h:LH} {K:Value -> T} {t:TypeId} {x y:Operand} {a b:ByteArray} (hu:P.underlying t = some .string) (hk:∀ c:Bool,(c = true ↔ a = b) -> (K (.bool c)).wp X P Q h) :
  (T.sem false (Sem.bind (eqGuard .eql t x y (.string a) (.string b)) fun _ => binOp .eql t (.string a) (.string b)) K).wp X P Q h := by
 refine t_sem (A := fun w h' => h' = h.get /\ (K w).wp X P Q h) (Sem.lwp_bind _ _ ?_) (by rintro w h' ⟨rfl,hw⟩; exact hw)
 unfold eqGuard
 simp only [Bool.not_true,Bool.false_eq_true,if_false,lwp_pure]
 unfold binOp
 show Sem.lwp P (Op.stringOp .eql a b) _ _ _
 unfold Op.stringOp
 rw [lwp_pure]
 exact ⟨rfl,hk _ (str_list a b)⟩
theorem t_lenStr {h:LH} {K:Value -> T} {t t':TypeId} {s:ByteArray} (hu:P.underlying t = some .string) (hk:(K (.int .i64 (s.size:Int))).wp X P Q h):(T.sem false (Builtin.len_ #[t] t' #[.string s]) K).wp X P Q h := by
 refine t_sem (A := fun w h' => h' = h.get /\ (K w).wp X P Q h) ?_ (by rintro w h' ⟨rfl,hw⟩; exact hw)
 unfold Builtin.len_
 change Sem.lwp P (underlying t >>= _) _ _ _
 rw [lwp_bind,lwp_underlying hu]
 exact ⟨rfl,hk⟩
end Go.TM
end
section
namespace Go.TM
open Go Go.Conc
variable {P:Program} {E:Halt -> Cells -> Prop} {h:Cells}
def ByteE (h:Cells) (a:Addr) (c:UInt8):Prop := h.cell? (a.add 0) = some (.int .u8 (c.toNat:Int))
theorem freeze_upd {h:Cells} {r:Nat} {cs:Array Value} {el:TypeId} {k:Nat}:(h.upd r (true,.cells cs el (0,0))).freeze { block := r,off := k } 1 = h.upd r (true,.cells cs el (k,k + 1)) := by
 funext r'
 unfold Cells.freeze Cells.upd
 by_cases e:r' = r
 ·subst e; simp [frzO]
 ·simp [e]
theorem lwp_bytes {Q:Value -> Cells -> Prop} {el:TypeId} {s:ByteArray} (hq:∀ r cap,h r = none -> s.size <= cap -> ∀ cs:Array Value,(∀ (i:Nat) c,s.data[i]? = some c -> cs[i]? = some (.int .u8 (c.toNat:Int))) -> Q (.slice (some ⟨r,0,none⟩) s.size cap) (h.upd r (true,.cells cs el (cs.size,cs.size + 1)))):Sem.lwp P (Conv.stringToBytes el s) Q E h := by
 unfold Conv.stringToBytes
 rw [lwp_bind]
 show (if _ then _ else _)
 split
 ·rename_i hf; simp [Question.forced] at hf
 ·intro t
  simp only [lwp_bind]
  refine lwp_newRow fun r hr => ?_
  unfold markStringish
  rw [lwp_bind]
  refine ⟨⟨_,Cells.upd_self _ _ _⟩,?_⟩
  have hs:∀ (cs:Array Value),(h.upd r (true,.cells cs el (0,0))).shape? r = some (el,cs.size) := by
   intro cs; unfold Cells.shape?; rw [Cells.upd_self]
  simp only [hs]
  refine ⟨by decide,⟨_,Cells.upd_self _ _ _⟩,?_⟩
  rw [freeze_upd]
  refine hq r _ hr (Nat.le_add_right _ _) _ fun i c hc => ?_
  have hi:i < s.data.size := (Array.getElem?_eq_some_iff.1 hc).1
  rw [Array.getElem?_append_left (by simpa using hi),Array.getElem?_map,hc]; rfl
variable {X:XP} {Q:Leaf -> LH -> Prop}
theorem t_bytes {h:LH} {K:Value -> T} {src dst el:TypeId} {s:ByteArray} (h1:P.underlying src = some .string) (h2:P.underlying dst = some (.slice el)) (h3:P.underlying el = some (.int .u8)) (hs:s.size < 4611686018427387904)
  (hk:∀ r cap h',h.le h' -> Sl ByteE 1 h'.get (some ⟨r,0,none⟩) s.size s.data.toList -> (K (.slice (some ⟨r,0,none⟩) s.size cap)).wp X P Q h'):(T.sem false (convert src dst (.string s)) K).wp X P Q h := by
 refine t_sem (A := fun w h' => ∃ r cap,w = .slice (some ⟨r,0,none⟩) s.size cap /\ h.get.le h' /\ Sl ByteE 1 h' (some ⟨r,0,none⟩) s.size s.data.toList) ?_ (by rintro w h' ⟨r,cap,rfl,hl,hsl⟩; exact hk r cap _ ⟨hl,rfl,rfl,rfl⟩ hsl)
 unfold convert
 simp only [lwp_bind,lwp_underlying h1,lwp_underlying h2,lwp_underlying h3]
 refine lwp_bytes fun r cap hr hcap cs hcs => ⟨r,cap,rfl,Cells.le_upd _ hr,?_⟩
 refine ⟨by rw [Array.length_toList]; rfl,by rw [Array.length_toList]; exact hs,fun i c hc => ⟨_,rfl,?_⟩⟩
 unfold ByteE
 rw [add_plain,add_plain]
 simp only [Nat.zero_add,Nat.mul_one,Nat.add_zero]
 unfold Cells.cell?
 rw [Cells.upd_self]
 exact hcs i c (by simpa using hc)
theorem t_indexS {h:LH} {K:Value -> T} {t:TypeId} {s:ByteArray} {i:Nat} {c:UInt8} (hu:P.underlying t = some .string) (hc:s.data[i]? = some c) (hk:(K (.int .u8 (c.toNat:Int))).wp X P Q h):(T.sem false (Instr.index t (.string s) (.int .i64 (i:Int))) K).wp X P Q h := by
 refine t_sem (A := fun w h' => h' = h.get /\ w = .int .u8 (c.toNat:Int)) ?_ (by rintro w h' ⟨rfl,rfl⟩; exact hk)
 unfold Instr.index
 simp only [asIntOf,lwp_bind,lwp_pure,lwp_underlying hu]
 have hi:i < s.size := (Array.getElem?_eq_some_iff.1 hc).1
 have h1:s[(i:Int).toNat]? = some c := by
  rw [Int.toNat_natCast,getElem?_pos s i hi]
  have := Array.getElem?_eq_getElem (xs := s.data) (i := i) hi
  rw [this] at hc
  exact hc
 rw [if_pos (by omega),h1]
 exact ⟨rfl,rfl⟩
end Go.TM
end
section
namespace Go.Proofs.YtgljffachdhigaaGreatDoor
open Go Go.TM Go.Proofs
attribute [local irreducible] T.wp CV FWK
def indexF (x:Int):Nat -> List Int -> Int
 | _,[] => -1
 | i,y :: l => if x == y then i else indexF x (i + 1) l
theorem indexF_ge (x:Int):∀ (l:List Int) (i:Nat),decide (indexF x i l >= 0) = l.contains x := by
 intro l
 induction l with
 | nil => intro i; rfl
 | cons y l ih =>
  intro i
  rw [indexF,List.contains_cons]
  split
  ·rename_i h; rw [h]; simp
  ·rename_i h
   have h':(x == y) = false := by simpa using h
   rw [ih,h',Bool.false_or]
theorem c106 {h:LH} {p:Option Addr} {n c:Nat} {l:List Int} (hl:Sl IntE 1 h.get p n l) (x:Int):Pu Tryz.prog 108 #[.slice p n c,.int .i64 x] h (.int .i64 (indexF x 0 l)) := by
 refine w106 _ _ _ _ X0_ok ?_
 unfold n106
 have hn := hl.1
 have hb := hl.2.1
 refine t_loop (fun m vs h' => h' = h /\ ∃ i:Nat,vs = [.int .i64 0,.int .i64 i] /\ i <= n /\ m = n - i /\ indexF x 0 l = indexF x i (l.drop i)) ⟨rfl,0,rfl,Nat.zero_le _,rfl,rfl⟩ ?_
 rintro Y m vs _ hY ⟨rfl,i,rfl,hi,rfl,hc⟩
 refine gZ ?_
 refine t_if (fun e1 => ?_) (fun e1 => ?_)
 ·obtain ⟨y,a,hx,ha,e2⟩ := hl.at (i := i) (by omega)
  unfold IntE at e2
  refine gZ ?_
  rw [drop_of hx,indexF] at hc
  refine t_cond (fun e3 => ?_) (fun e3 => ?_)
  ·refine gZ ?_
   refine t_ret ⟨?_,rfl⟩
   rw [hc,if_pos e3]
  ·refine t_again (hY (n - (i + 1)) _ _ (by omega) ⟨rfl,i + 1,?_,by omega,rfl,?_⟩)
   ·rw [wrap_id (by omega) (by omega)]; rfl
   ·rw [hc,if_neg (by simp [e3])]
 ·refine gZ ?_
  refine t_ret ⟨?_,rfl⟩
  rw [hc,List.drop_eq_nil_of_le (by omega)]; rfl
theorem c100 {h:LH} {p:Option Addr} {n c:Nat} {l:List Int} (hl:Sl IntE 1 h.get p n l) (x:Int):Pu Tryz.prog 68 #[.slice p n c,.int .i64 x] h (.bool (l.contains x)) := by
 refine w100 _ _ _ _ X0_ok ?_
 unfold n100
 refine t_pu (c106 hl x) ?_
 refine gZ ?_
 refine t_ret ⟨?_,rfl⟩
 rw [indexF_ge]
theorem c80 {h:LH} {z:Addr} {d:Int} (hz:h.get.cell? z = some (.int .i64 d)) (a b:Int):Pu Tryz.prog 114 #[.agg #[.int .i64 a,.int .i64 b],.pointer (some z)] h (.bool (isIn d a b)) := by
 refine w80 _ _ _ X0_ok ?_
 unfold n80
 refine gZ ?_
 refine t_pu (c81 _ _ _) ?_
 refine gZ ?_
 exact t_ret ⟨rfl,rfl⟩
def placeF {α:Type} (f:α -> Bool):Nat -> List α -> Int
 | _,[] => -1
 | i,y :: l => if f y then i else placeF f (i + 1) l
theorem placeF_ge {α:Type} (f:α -> Bool):∀ (l:List α) (i:Nat),decide (placeF f i l >= 0) = l.any f := by
 intro l
 induction l with
 | nil => intro i; rfl
 | cons y l ih =>
  intro i
  rw [placeF,List.any_cons]
  split
  ·rename_i h; rw [h]; simp
  ·rename_i h
   have h':f y = false := by simpa using h
   rw [ih,h',Bool.false_or]
theorem c98 {h:LH} {p:Option Addr} {n c:Nat} {l:List Span} {fv:Value} {g:Span -> Bool} (hl:Sl SpanE 2 h.get p n l) (hf:∀ x h',h.le h' -> CV X0 Tryz.prog fv #[.agg #[.int .i64 x.first,.int .i64 x.last]] h' fun r h'' => h'.le h'' /\ r = .bool (g x)) :
  Gr Tryz.prog 145 #[.slice p n c,fv] h fun r _ => r = .int .i64 (placeF g 0 l) := by
 refine w98 _ _ _ _ X0_ok ?_
 unfold n98
 have hn := hl.1
 have hb := hl.2.1
 refine t_loop (fun m vs h' => h.le h' /\ ∃ i:Nat,vs = [.int .i64 0,.int .i64 i] /\ i <= n /\ m = n - i /\ placeF g 0 l = placeF g i (l.drop i)) ⟨LH.le_refl _,0,rfl,Nat.zero_le _,rfl,rfl⟩ ?_
 rintro Y m vs h₁ hY ⟨hle,i,rfl,hi,rfl,hc⟩
 refine gZ ?_
 refine t_if (fun e1 => ?_) (fun e1 => ?_)
 ·obtain ⟨x,a,hx,ha,e2,e4⟩ := (hl.le SpanE.grow hle.1).at (i := i) (by omega)
  refine gZ ?_
  refine t_callv (hf x h₁ hle) ?_
  rintro _ h₂ ⟨hle2,rfl⟩
  refine gZ ?_
  rw [drop_of hx,placeF] at hc
  refine t_cond (fun e3 => ?_) (fun e3 => ?_)
  ·refine gZ ?_
   refine t_ret ⟨LH.le_trans hle hle2,?_⟩
   rw [hc,if_pos e3]
  ·refine t_again (hY (n - (i + 1)) _ _ (by omega) ⟨LH.le_trans hle hle2,i + 1,?_,by omega,rfl,?_⟩)
   ·rw [wrap_id (by omega) (by omega)]; rfl
   ·rw [hc,if_neg (by simp [e3])]
 ·refine gZ ?_
  refine t_ret ⟨hle,?_⟩
  rw [hc,List.drop_eq_nil_of_le (by omega)]; rfl
theorem c79 {h:LH} {p:Option Addr} {n c:Nat} {l:List Span} {fv:Value} {g:Span -> Bool} (hl:Sl SpanE 2 h.get p n l) (hf:∀ x h',h.le h' -> CV X0 Tryz.prog fv #[.agg #[.int .i64 x.first,.int .i64 x.last]] h' fun r h'' => h'.le h'' /\ r = .bool (g x)) :
  Gr Tryz.prog 113 #[.slice p n c,fv] h fun r _ => r = .bool (l.any g) := by
 refine w79 _ _ _ _ X0_ok ?_
 unfold n79
 refine t_gr (c98 hl hf) ?_
 rintro _ h' hle rfl
 refine gZ ?_
 refine t_ret ⟨hle,?_⟩
 rw [placeF_ge]
def Asks (v:Value) (h:LH) (u:UseFile) (g:Int):Prop := numbersF u = 0 -> ∀ (f:FileC) h',h.le h' -> FileR h'.get f u -> CV X0 Tryz.prog v #[fileV f u] h' fun r h'' => h'.le h'' /\ r = .int .i64 g
theorem Asks.le {v:Value} {h h':LH} {u:UseFile} {g:Int} (hl:h.le h') (a:Asks v h u g):Asks v h' u g := fun hn f h2 hl2 => a hn f h2 (LH.le_trans hl hl2)
theorem c82 {h:LH} {f:FileC} {u:UseFile} {z:Addr} {d:Int} (hz:h.get.cell? z = some (.int .i64 d)):Pu Tryz.prog 116 #[fileV f u,.pointer (some z)] h (.int .i64 (if isDay d then 0 else 1)) := by
 refine w82 _ _ _ _ _ _ _ _ _ _ _ _ _ _ X0_ok ?_
 unfold n82
 refine gZ ?_
 refine t_pu (c84 _) ?_
 refine gZ ?_
 refine t_pu (c83 _ _) ?_
 refine gZ ?_
 refine t_ret ⟨?_,rfl⟩
 unfold isDay
 cases isIn d 0 2000 <;> rfl
theorem c85 {h:LH} {f:FileC} {u:UseFile} (hl:IsI (u.lands - 1)) {z:Addr} {d:Int} (hz:h.get.cell? z = some (.int .i64 d)):Pu Tryz.prog 119 #[fileV f u,.pointer (some z)] h (.int .i64 (if isIn d 0 (u.lands - 1) then 0 else 6)) := by
 refine w85 _ _ _ _ _ _ _ _ _ _ _ _ _ _ X0_ok ?_
 unfold n85
 refine gZ ?_
 refine t_pu (c86 (f := f) hl _) ?_
 refine gZ ?_
 refine t_pu (c83 _ _) ?_
 refine gZ ?_
 refine t_ret ⟨?_,rfl⟩
 cases isIn d 0 (u.lands - 1) <;> rfl
theorem c87 {h:LH} {f:FileC} {u:UseFile} (hl:IsI (u.items - 1)) {z:Addr} {d:Int} (hz:h.get.cell? z = some (.int .i64 d)):Pu Tryz.prog 121 #[fileV f u,.pointer (some z)] h (.int .i64 (if isIn d 0 (u.items - 1) then 0 else 6)) := by
 refine w87 _ _ _ _ _ _ _ _ _ _ _ _ _ _ X0_ok ?_
 unfold n87
 refine gZ ?_
 rw [wrap_id hl.1 hl.2]
 refine t_pu (c81 _ _ _) ?_
 refine gZ ?_
 refine t_pu (c83 _ _) ?_
 refine gZ ?_
 refine t_ret ⟨?_,rfl⟩
 cases isIn d 0 (u.items - 1) <;> rfl
def dayQ (d:Int):Int := if isDay d then 0 else 1
def landQ (u:UseFile) (d:Int):Int := if isIn d 0 (u.lands - 1) then 0 else 6
def itemQ (u:UseFile) (d:Int):Int := if isIn d 0 (u.items - 1) then 0 else 6
theorem c54 {h:LH} (u:UseFile) (d:Int):Gr Tryz.prog 79 #[.int .i64 d] h fun r h' => (∃ fn a b,r = Value.func fn a b) /\ Asks r h' u (dayQ d) := by
 refine w54 _ X0_ok ?_
 unfold n54
 refine t_new fun r hr => ?_
 have hz:Cells.cell? (h.get.upd r (true,.cells #[.int .i64 d] 3 (0,0))) ⟨r,0,none⟩ = some (.int .i64 d) := cell_upd rfl
 refine t_ret ⟨LH.upd_le hr,⟨_,_,_,rfl⟩,fun hn f h' hle _ => ?_⟩
 exact cv_fw X0_ok (by rfl) (pu_gr (c82 (Cells.cell?_le hle.1 hz)))
theorem c58 {h:LH} (u:UseFile) (d:Int):Gr Tryz.prog 81 #[.int .i64 d] h fun r h' => (∃ fn a b,r = Value.func fn a b) /\ Asks r h' u (landQ u d) := by
 refine w58 _ X0_ok ?_
 unfold n58
 refine t_new fun r hr => ?_
 have hz:Cells.cell? (h.get.upd r (true,.cells #[.int .i64 d] 3 (0,0))) ⟨r,0,none⟩ = some (.int .i64 d) := cell_upd rfl
 refine t_ret ⟨LH.upd_le hr,⟨_,_,_,rfl⟩,fun hn f h' hle _ => ?_⟩
 exact cv_fw X0_ok (by rfl) (pu_gr (c85 (num_lands hn) (Cells.cell?_le hle.1 hz)))
theorem c59 {h:LH} (u:UseFile) (d:Int):Gr Tryz.prog 82 #[.int .i64 d] h fun r h' => (∃ fn a b,r = Value.func fn a b) /\ Asks r h' u (itemQ u d) := by
 refine w59 _ X0_ok ?_
 unfold n59
 refine t_new fun r hr => ?_
 have hz:Cells.cell? (h.get.upd r (true,.cells #[.int .i64 d] 3 (0,0))) ⟨r,0,none⟩ = some (.int .i64 d) := cell_upd rfl
 refine t_ret ⟨LH.upd_le hr,⟨_,_,_,rfl⟩,fun hn f h' hle _ => ?_⟩
 exact cv_fw X0_ok (by rfl) (pu_gr (c87 (num_items hn) (Cells.cell?_le hle.1 hz)))
end Go.Proofs.YtgljffachdhigaaGreatDoor
end
section
namespace Go.Proofs.YtgljffachdhigaaGreatDoor
open Go Go.TM Go.Proofs
attribute [local irreducible] T.wp CV FWK
def De (f:FuncId) (args:Array Value) (h:LH) (d m:Nat) (fc:FileC) (u:UseFile) (V:Value -> LH -> Prop):Prop := FW X0 Tryz.prog f args h fun r h' => Mv m h h' /\ Desk h'.get d m fc u /\ V r h'
theorem t_de {X:XP} {Q:Leaf -> LH -> Prop} {h:LH} {f:FuncId} {args:Array Value} {d m:Nat} {fc:FileC} {u:UseFile} {k:Value -> T} {V:Value -> LH -> Prop} (c:De f args h d m fc u V) (hk:∀ v h',Mv m h h' -> Desk h'.get d m fc u -> V v h' -> (k v).wp X Tryz.prog Q h'):(T.call false f args k).wp X Tryz.prog Q h :=
 t_call (FW.top c) fun v h' ha => hk v h' ha.1 ha.2.1 ha.2.2
theorem two119:twoInts Tryz.prog 194 = true := by kernel_rfl
theorem two30:twoInts Tryz.prog 29 = true := by kernel_rfl
theorem i64_3:isI64 Tryz.prog 3 = true := by kernel_rfl
theorem Desk.updMap {h:Cells} {d m:Nat} {f:FileC} {u:UseFile} (k:Desk h d m f u) {es':Array MapEntry} {c:Nat} (he:∀ e ∈ es'.toList,∃ day:Int,e.key = .agg #[.int .i64 day,.int .i64 u.idle] /\ e.val = .agg #[.int .i64 (window u day).first,.int .i64 day]):Rd h (h.upd m (true,.map es' c)) /\ Desk (h.upd m (true,.map es' c)) d m f u := by
 have hr:Rd h (h.upd m (true,.map es' c)) := by
  intro a v hc
  have hne:a.block ≠ m := by
   intro e
   obtain ⟨es,c,hm⟩ := k.isMap
   unfold Cells.cell? at hc
   rw [e,hm] at hc; cases hc
  unfold Cells.cell? at hc ⊢
  rw [Cells.upd_ne _ _ hne]; exact hc
 exact ⟨hr,k.file.rd hr,k.rep.rd hr,fun j hj => hr _ _ (k.counts j hj),hr _ _ k.mapp,_,_,Cells.upd_self _ _ _,he⟩
theorem Mv.updMap {m:Nat} {h:LH} {es':Array MapEntry} {c:Nat}:Mv m h { h with get := h.get.upd m (true,.map es' c) } :=
 ⟨fun r x hr hx => by show Cells.upd _ _ _ r = _; rw [Cells.upd_ne _ _ hr]; exact hx,fun _ _ _ => ⟨es',c,Cells.upd_self _ _ _⟩,rfl,rfl,rfl⟩
theorem c55 {h:LH} {d m:Nat} {f:FileC} {u:UseFile} (k:Desk h.get d m f u) (hid:1 <= u.idle /\ u.idle <= 2000) (day:Int) (hd:0 <= day /\ day <= 2000) :
  De 80 #[.pointer (some ⟨d,0,none⟩),.int .i64 day] h d m f u fun r _ => r = .agg #[.int .i64 (window u day).first,.int .i64 day] := by
 refine w55 _ _ X0_ok ?_
 unfold n55
 obtain ⟨f0,f1,f2,f3,f4,f5,f6⟩ := k.file
 have hmp := k.mapp
 obtain ⟨es,c,hm,hes⟩ := k.map
 have hkey:∀ e ∈ es.toList,IsKey Tryz.prog 194 e.key := fun e he => by obtain ⟨dy,h1,_⟩ := hes e he; exact .inr ⟨two119,dy,u.idle,h1⟩
 have hkey':IsKey Tryz.prog 194 (.agg #[.int .i64 day,.int .i64 u.idle]) := .inr ⟨two119,_,_,rfl⟩
 have found:∀ e ∈ es.toList,e.key = .agg #[.int .i64 day,.int .i64 u.idle] -> e.val = .agg #[.int .i64 (window u day).first,.int .i64 day] := by
  intro e he hk
  obtain ⟨dy,h1,h2⟩ := hes e he
  rw [hk] at h1
  simp only [Value.agg.injEq,Array.mk.injEq,List.cons.injEq,Value.int.injEq,and_true,true_and] at h1
  rw [h2,h1]
 refine gZ ?_
 refine t_blk (fun vs h' => vs = [.int .i64 0,.int .i64 0] /\ h = h') ?_ ?_
 ·refine gZ ?_
  refine t_both ?_ ?_
  ·refine t_lookup und111 inf30 ⟨c,hm⟩ hkey' hkey (fun e he hk => ?_) fun hno => ?_
   ·rw [found e he hk]
    simp only [if_true]
    refine gZ ?_
    refine t_cond (fun _ => ?_) (fun e => by cases e)
    refine gZ ?_
    exact t_ret ⟨Mv.refl,k,rfl⟩
   ·simp only [if_true]
    refine gZ ?_
    refine t_cond (fun e => by cases e) (fun _ => ?_)
    exact t_again ⟨rfl,rfl⟩
  ·refine gZ ?_
   refine t_lookup und111 inf30 ⟨c,hm⟩ hkey' hkey (fun e he hk => ?_) fun hno => ?_
   ·rw [found e he hk]
    simp only [if_true]
    refine gZ ?_
    refine t_cond (fun _ => ?_) (fun e => by cases e)
    refine gZ ?_
    exact t_ret ⟨Mv.refl,k,rfl⟩
   ·simp only [if_true]
    refine gZ ?_
    refine t_cond (fun e => by cases e) (fun _ => ?_)
    exact t_again ⟨rfl,rfl⟩
 ·rintro vs _ ⟨rfl,rfl⟩
  refine gZ ?_
  refine t_loop (fun mm vs h' => h = h' /\ ∃ (x:Nat) (n:Int),vs = [.int .i64 (u.idle - n),.int .i64 x,.int .i64 day] /\ x <= 2000 /\ 0 <= n /\ n < u.idle /\ x = mm /\ firstDay (counts u) u.idle day.toNat 0 = firstDay (counts u) u.idle x n)
   ⟨rfl,day.toNat,0,by simp; omega,by omega,by omega,by omega,rfl,rfl⟩ ?_
  rintro Y mm vs _ hY ⟨rfl,x,n,rfl,hx,hn0,hn1,rfl,hc⟩
  have fin:∀ (w:Int),w = (window u day).first -> ∀ {K:Value -> T} {Q:Leaf -> LH -> Prop},(∀ h',Mv m h h' -> Desk h'.get d m f u -> (K undef).wp X0 Tryz.prog Q h') -> (T.sem false (Sem.bind (Instr.mapUpdate 186 (.map (some m)) (.agg #[.int .i64 day,.int .i64 u.idle]) (.agg #[.int .i64 w,.int .i64 day])) fun _ => pure (.tuple #[])) K).wp X0 Tryz.prog Q h := by
   intro w hw K Q hK
   refine t_mapUpdate und111 ⟨c,hm⟩ hkey' hkey fun es' c' h1 _ _ => hK _ Mv.updMap (Desk.updMap k fun e he => ?_).2
   rcases h1 e he with ⟨h1,h2⟩ | h1
   ·exact ⟨day,h1,by rw [h2,hw]⟩
   ·exact hes e h1
  refine gZ ?_
  refine t_if (fun e1 => ?_) (fun e1 => ?_)
  ·have hcell:h.get.cell? ((Addr.add ⟨d,0,none⟩ 7).add ((x:Int).toNat * 1)) = some (.bool (counts u x)) := by
    have h7:0 + 7 + (x:Int).toNat * 1 = 7 + x := by omega
    rw [add_plain,add_plain,h7]; exact k.counts x (by omega)
   obtain ⟨y,rfl⟩ : ∃ y,x = y + 1 := ⟨x - 1,by omega⟩
   refine gZ ?_
   rw [firstDay] at hc
   refine t_cond (fun e2 => ?_) (fun e2 => ?_)
   ·have hin:(if counts u ((y + 1:Nat):Int) = true then n + 1 else n) = n + 1 := if_pos e2
    simp only [hin] at hc
    rw [wrap_id (by omega) (by omega)]
    refine t_cond (fun e3 => ?_) (fun e3 => ?_)
    ·refine gZ ?_
     have e3':u.idle - n - 1 = 0 := by simpa using e3
     rw [if_pos (by omega)] at hc
     refine fin _ (by rw [window]; exact hc.symm) fun h' hv hk => ?_
     exact t_ret ⟨hv,hk,by rw [window,hc]⟩
    ·have e3':u.idle - n - 1 ≠ 0 := by simpa using e3
     rw [if_neg (by omega)] at hc
     refine t_again (hY y _ _ (by omega) ⟨rfl,y,n + 1,?_,by omega,by omega,by omega,rfl,hc⟩)
     have a1:u.idle - n - 1 = u.idle - (n + 1) := by omega
     have a2:((y + 1:Nat):Int) - 1 = (y:Int) := by omega
     rw [wrap_id (by omega) (by omega),a1,a2]
   ·have hin:(if counts u ((y + 1:Nat):Int) = true then n + 1 else n) = n := if_neg (by rw [e2]; simp)
    simp only [hin] at hc
    refine t_cond (fun e3 => ?_) (fun e3 => ?_)
    ·exfalso
     have e3':u.idle - n = 0 := by simpa using e3
     omega
    ·rw [if_neg (by omega)] at hc
     refine t_again (hY y _ _ (by omega) ⟨rfl,y,n,?_,by omega,by omega,by omega,rfl,hc⟩)
     have a2:((y + 1:Nat):Int) - 1 = (y:Int) := by omega
     rw [wrap_id (by omega) (by omega),a2]
  ·refine gZ ?_
   obtain rfl:x = 0 := by omega
   rw [firstDay] at hc
   refine fin _ (by rw [window]; exact hc.symm) fun h' hv hk => ?_
   exact t_ret ⟨hv,hk,by rw [window,hc]; rfl⟩
end Go.Proofs.YtgljffachdhigaaGreatDoor
end
section
namespace Go.Proofs.YtgljffachdhigaaGreatDoor
open Go Go.TM Go.Proofs
attribute [local irreducible] T.wp CV FWK
def AskSl (h:LH) (p:Option Addr) (n:Nat) (u:UseFile) (l:List Int):Prop :=
 n = l.length /\ l.length < 4611686018427387904 /\ ∀ i g,l[i]? = some g -> ∃ a v,p = some a /\ h.get.cell? (a.add (i * 1)) = some v /\ Asks v h u g
noncomputable def deskOf (f:FileC) (u:UseFile) (m:Nat):Array Value := match buildV Tryz.prog 189 [(0,fileV f u),(2,.map (some m))] with
 | some (.agg cs) => cs
 | _ => #[]
set_option maxRecDepth 100000 in
theorem deskOf_build (f:FileC) (u:UseFile) (m:Nat):buildV Tryz.prog 189 [(0,fileV f u),(2,.map (some m))] = some (.agg (deskOf f u m)) := by kernel_rfl
theorem deskOf_size (f:FileC) (u:UseFile) (m:Nat):(deskOf f u m).size = 2009 := by kernel_rfl
theorem deskOf_0 (f:FileC) (u:UseFile) (m:Nat):(deskOf f u m)[0]? = some (.int .i64 u.items) := by kernel_rfl
theorem deskOf_1 (f:FileC) (u:UseFile) (m:Nat):(deskOf f u m)[1]? = some (.int .i64 u.lands) := by kernel_rfl
theorem deskOf_2 (f:FileC) (u:UseFile) (m:Nat):(deskOf f u m)[2]? = some (.int .i64 u.from_) := by kernel_rfl
theorem deskOf_3 (f:FileC) (u:UseFile) (m:Nat):(deskOf f u m)[3]? = some (.int .i64 u.idle) := by kernel_rfl
theorem deskOf_4 (f:FileC) (u:UseFile) (m:Nat):(deskOf f u m)[4]? = some (.slice f.p4 f.n4 f.c4) := by kernel_rfl
theorem deskOf_5 (f:FileC) (u:UseFile) (m:Nat):(deskOf f u m)[5]? = some (.slice f.p5 f.n5 f.c5) := by kernel_rfl
theorem deskOf_6 (f:FileC) (u:UseFile) (m:Nat):(deskOf f u m)[6]? = some (.slice f.p6 f.n6 f.c6) := by kernel_rfl
theorem deskOf_m (f:FileC) (u:UseFile) (m:Nat):(deskOf f u m)[2008]? = some (.map (some m)) := by kernel_rfl
attribute [irreducible] deskOf
def openF (u:UseFile) (l:List Int):Int := if checkF u ≠ 0 then checkF u else firstF (fun _ x => x) 0 l
def Opened (h h':LH) (f:FileC) (u:UseFile) (g:Int) (r:Value):Prop :=
 h.le h' /\ ((g ≠ 0 /\ r = .tuple #[.pointer none,.int .i64 g]) \/ (g = 0 /\ ∃ d m,r = .tuple #[.pointer (some ⟨d,0,none⟩),.int .i64 0] /\ h.get d = none /\ h.get m = none /\ Desk h'.get d m f u))
theorem setCell_upd {h:Cells} {r i:Nat} {m:Bool} {cs:Array Value} {el:TypeId} {v:Value} (hr:h r = some (m,.cells cs el (0,0))):h.setCell ⟨r,i,none⟩ v = h.upd r (m,.cells (cs.setIfInBounds i v) el (0,0)) := by
 funext b
 unfold Cells.setCell Cells.upd
 by_cases e:b = r
 ·subst e; simp [hr]
 ·simp [e]
theorem frozen_plain {h:Cells} {r i:Nat} {m:Bool} {cs:Array Value} {el:TypeId} (hr:h r = some (m,.cells cs el (0,0))):h.frozen? ⟨r,i,none⟩ = false := by
 simp [Cells.frozen?,hr]
theorem c53 {h:LH} {f:FileC} {u:UseFile} {p:Option Addr} {n c:Nat} {l:List Int} (hp:Parts h.get) (hu:FileR h.get f u) (hw:AskSl h p n u l) :
  FW X0 Tryz.prog 78 #[fileV f u,.slice p n c] h fun r h' => Opened h h' f u (openF u l) r := by
 refine w53 _ _ _ _ _ _ _ _ _ _ _ _ _ _ _ _ X0_ok ?_
 unfold n53
 refine t_gr (c26 hp hu) ?_
 rintro _ h₁ le1 rfl
 refine gZ ?_
 refine t_cond (fun e0 => ?_) (fun e0 => ?_)
 ·have e0':checkF u ≠ 0 := by simpa using e0
  refine t_ret ⟨le1,.inl ⟨?_,?_⟩⟩
  ·rw [openF,if_pos e0']; exact e0'
  ·rw [openF,if_pos e0']
 have e0':checkF u = 0 := by simpa using e0
 have hn0 := check_num e0'
 have ho:openF u l = firstF (fun _ x => x) 0 l := by rw [openF,if_neg (by simp [e0'])]
 have hn := hw.1
 have hb := hw.2.1
 refine t_loop (fun mm vs h' => h.le h' /\ ∃ i:Nat,vs = [.pointer none,.int .i64 0,.int .i64 i] /\ i <= n /\ mm = n - i /\ openF u l = firstF (fun _ x => x) i (l.drop i)) ⟨le1,0,rfl,Nat.zero_le _,rfl,ho⟩ ?_
 rintro Y mm vs h₂ hY ⟨hle,i,rfl,hi,rfl,hc⟩
 refine gZ ?_
 refine t_if (fun e1 => ?_) (fun e1 => ?_)
 ·obtain ⟨g,hg⟩ : ∃ g,l[i]? = some g := ⟨l[i]'(by omega),List.getElem?_eq_getElem (by omega)⟩
  obtain ⟨a,v,ha,hv,hask⟩ := hw.2.2 i g hg
  have hv2 := Cells.cell?_le hle.1 hv
  refine gT (by omega) (gS2 ha (t_loadV hv2 ?_))
  refine t_callv (hask hn0 f h₂ hle (hu.le hle.1)) ?_
  rintro _ h₃ ⟨le3,rfl⟩
  refine gZ ?_
  rw [drop_of hg,firstF] at hc
  refine t_cond (fun e2 => ?_) (fun e2 => ?_)
  ·have e2':g ≠ 0 := by simpa using e2
   refine gZ ?_
   rw [if_pos e2'] at hc
   exact t_ret ⟨LH.le_trans hle le3,.inl ⟨by rw [hc]; exact e2',by rw [hc]⟩⟩
  ·have e2':g = 0 := by simpa using e2
   rw [if_neg (by simp [e2'])] at hc
   refine t_again (hY (n - (i + 1)) _ _ (by omega) ⟨LH.le_trans hle le3,i + 1,?_,by omega,rfl,hc⟩)
   rw [wrap_id (by omega) (by omega)]; rfl
 ·refine gZ ?_
  rw [List.drop_eq_nil_of_le (by omega),firstF] at hc
  refine t_makeMap fun m hm => ?_
  refine gZ ?_
  have le4:h₂.le _ := LH.upd_le (x := (true,.map #[] 0)) hm
  refine t_struct (deskOf_build f u m) ?_
  refine t_new fun d hd => ?_
  have le5:LH.le _ _ := LH.upd_le (x := (true,.cells (deskOf f u m) 189 (0,0))) hd
  have hdm:d ≠ m := by
   rintro rfl
   change Cells.upd _ _ _ d = none at hd
   rw [Cells.upd_self] at hd; cases hd
  have hd0:h.get d = none := by
   cases hx:h.get d with
   | none => rfl
   | some x => rw [(LH.le_trans hle le4).1 _ _ hx] at hd; cases hd
  have hm0:h.get m = none := by
   cases hx:h.get m with
   | none => rfl
   | some x => rw [hle.1 _ _ hx] at hm; cases hm
  refine t_loop (fun mm vs h' => ∃ (i:Nat) (cs:Array Value),vs = [.int .i64 i] /\ i <= 2001 /\ mm = 2001 - i /\ h₂.le h' /\ h'.get m = some (true,.map #[] 0) /\ h'.get d = some (true,.cells cs 189 (0,0)) /\ cs.size = 2009 /\ (∀ j,j < 7 \/ j = 2008 -> cs[j]? = (deskOf f u m)[j]?) /\ ∀ j:Nat,j < i -> cs[7 + j]? = some (.bool (counts u j)))
   (n := 2001) ⟨0,deskOf f u m,rfl,by omega,by omega,LH.le_trans le4 le5,?_,Cells.upd_self _ _ _,deskOf_size _ _ _,fun _ _ => rfl,fun j hj => by omega⟩ ?_
  ·show Cells.upd _ _ _ m = _
   rw [Cells.upd_ne _ _ (Ne.symm hdm)]; exact Cells.upd_self _ _ _
  rintro Y2 mm2 vs2 h₆ hY2 ⟨j,cs,rfl,hj,rfl,le6,hm6,hd6,hsz,hfix,hcnt⟩
  refine gZ ?_
  refine t_if (fun e5 => ?_) (fun e5 => ?_)
  ·refine t_new fun r1 hr1 => ?_
   have hr1d:r1 ≠ d := by rintro rfl; rw [hd6] at hr1; cases hr1
   have hr1m:r1 ≠ m := by rintro rfl; rw [hm6] at hr1; cases hr1
   have le7:h₆.le _ := LH.upd_le (x := (true,.cells #[.int .i64 0] 3 (0,0))) hr1
   have own1:(h₆.get.upd r1 (true,.cells #[.int .i64 0] 3 (0,0))) r1 = some (true,.cells #[.int .i64 0] 3 (0,0)) := Cells.upd_self _ _ _
   refine t_store rfl ⟨_,own1⟩ (v₀ := .int .i64 0) (by show Cells.cell? _ _ = _; exact cell_upd rfl) (frozen_plain (i := 0) own1) ?_
   have hset:(h₆.get.upd r1 (true,.cells #[.int .i64 0] 3 (0,0))).setCell ⟨r1,0,none⟩ (.int .i64 j) = h₆.get.upd r1 (true,.cells #[.int .i64 j] 3 (0,0)) := by
    rw [setCell_upd own1]
    funext b; unfold Cells.upd; by_cases e:b = r1 <;> simp [e]
   have hset':(h₆.get.upd r1 (true,.cells #[.int .i64 0] 3 (0,0))).setCell (Addr.add ⟨r1,0,none⟩ 0) (.int .i64 j) = h₆.get.upd r1 (true,.cells #[.int .i64 j] 3 (0,0)) := hset
   simp only [hset']
   have le8:h₆.le { h₆ with get := h₆.get.upd r1 (true,.cells #[.int .i64 j] 3 (0,0)) } := LH.upd_le hr1
   have hz:Cells.cell? (h₆.get.upd r1 (true,.cells #[.int .i64 j] 3 (0,0))) ⟨r1,0,none⟩ = some (.int .i64 j) := cell_upd rfl
   refine gL0 hz ?_
   refine gS2 rfl ?_
   refine t_gr (c79 (g := fun x => isIn j x.first x.last) (hu.le (LH.le_trans (LH.le_trans hle le6) le8).1).excuses fun x h' hl' => cv_fw X0_ok (by rfl) (pu_gr (c80 (Cells.cell?_le hl'.1 hz) _ _))) ?_
   rintro _ h₉ le9 rfl
   have hz9 := Cells.cell?_le le9.1 hz
   have hd9 := (LH.le_trans le8 le9).1 _ _ hd6
   refine gZ ?_
   have hcl:h₉.get.cell? ⟨d,7 + j,none⟩ = some (cs[7 + j]'(by omega)) := by
    simp only [Cells.cell?,hd9]
    simp [show 7 + j < cs.size by omega]
   have ha7:Addr.add (Addr.add (Addr.add ⟨d,0,none⟩ 7) ((j:Int).toNat * 1)) 0 = ⟨d,7 + j,none⟩ := by
    have h7:0 + 7 + (j:Int).toNat * 1 + 0 = 7 + j := by omega
    rw [add_plain,add_plain,add_plain,h7]
   refine t_store rfl ?_ (v₀ := cs[7 + j]'(by omega)) ?_ ?_ ?_
   ·rw [ha7]; exact ⟨_,hd9⟩
   ·rw [ha7]; exact hcl
   ·rw [ha7]; exact frozen_plain hd9
   rw [ha7,setCell_upd hd9]
   refine gZ ?_
   refine t_again (hY2 (2001 - (j + 1)) _ _ (by omega) ⟨j + 1,_,?_,by omega,rfl,?_,?_,Cells.upd_self _ _ _,by rw [Array.size_setIfInBounds]; exact hsz,?_,?_⟩)
   ·rw [wrap_id (by omega) (by omega)]; rfl
   ·have := LH.le_trans (LH.le_trans le6 le8) le9
    refine ⟨fun b x hb => ?_,this.2⟩
    have hbd:b ≠ d := by
     rintro rfl
     rw [le4.1 _ _ hb] at hd; cases hd
    show Cells.upd _ _ _ b = _
    rw [Cells.upd_ne _ _ hbd]; exact this.1 _ _ hb
   ·show Cells.upd _ _ _ m = _
    rw [Cells.upd_ne _ _ (Ne.symm hdm)]; exact (LH.le_trans le8 le9).1 _ _ hm6
   ·intro i hi
    rw [Array.getElem?_setIfInBounds_ne (by omega)]; exact hfix i hi
   ·intro i hi
    by_cases e:i = j
    ·subst e
     rw [Array.getElem?_setIfInBounds_self,if_pos (by omega)]
     congr 2
     simp only [counts,List.not_any_eq_all_not]
    ·rw [Array.getElem?_setIfInBounds_ne (by omega)]; exact hcnt i (by omega)
  ·refine gZ ?_
   have hcell:∀ i v,cs[i]? = some v -> h₆.get.cell? (Addr.add ⟨d,0,none⟩ i) = some v := by
    intro i v hv
    rw [add_plain,Nat.zero_add]
    simp only [Cells.cell?,hd6]
    simpa using hv
   have hcell':∀ i v,cs[i]? = some v -> h₆.get.cell? ⟨d,i,none⟩ = some v := by
    intro i v hv
    simp only [Cells.cell?,hd6]
    simpa using hv
   refine t_ret ⟨LH.le_trans hle le6,.inr ⟨hc,d,m,rfl,hd0,hm0,?_,hu.le (LH.le_trans hle le6).1,?_,?_,?_⟩⟩
   ·exact ⟨hcell _ _ ((hfix 0 (by omega)).trans (deskOf_0 _ _ _)),hcell _ _ ((hfix 1 (by omega)).trans (deskOf_1 _ _ _)),hcell _ _ ((hfix 2 (by omega)).trans (deskOf_2 _ _ _)),hcell _ _ ((hfix 3 (by omega)).trans (deskOf_3 _ _ _)),
     hcell _ _ ((hfix 4 (by omega)).trans (deskOf_4 _ _ _)),hcell _ _ ((hfix 5 (by omega)).trans (deskOf_5 _ _ _)),hcell _ _ ((hfix 6 (by omega)).trans (deskOf_6 _ _ _))⟩
   ·intro i hi
    exact hcell' _ _ (hcnt i (by omega))
   ·exact hcell' _ _ ((hfix 2008 (.inr rfl)).trans (deskOf_m _ _ _))
   ·exact ⟨_,_,hm6,fun e he => by simp at he⟩
end Go.Proofs.YtgljffachdhigaaGreatDoor
end
section
namespace Go.Proofs.YtgljffachdhigaaGreatDoor
open Go Go.TM Go.Proofs
attribute [local irreducible] T.wp CV FWK
theorem Mv.le_of {m:Nat} {h h₁ h':LH} (hle:h.le h₁) (hm:h.get m = none) (mv:Mv m h₁ h'):h.le h' := by
 refine ⟨fun r x hr => mv.keep r x ?_ (hle.1 r x hr),mv.same.1.trans hle.2.1,mv.same.2.1.trans hle.2.2.1,mv.same.2.2.trans hle.2.2.2⟩
 rintro rfl; rw [hm] at hr; cases hr
theorem asks1 {h:LH} {X:XP} {Q:Leaf -> LH -> Prop} {k:Value -> T} {u:UseFile} {v0:Value} {g0:Int} (q0:∃ fn a b,v0 = Value.func fn a b) (a0:Asks v0 h u g0) (hk:∀ r h',h.le h' -> AskSl h' (some ⟨r,0,none⟩) 1 u [g0] -> (k (.slice (some ⟨r,0,none⟩) 1 1)).wp X Tryz.prog Q h'):(T.sem false (Instr.buildSlice 185 1 #[(0,v0)]) k).wp X Tryz.prog Q h := by
 obtain ⟨fn0,x0,y0,rfl⟩ := q0
 refine t_build und110 inf87 (by decide) (by decide) (cells := #[.func fn0 x0 y0]) (by kernel_rfl) fun r hr => ?_
 have le1:h.le _ := LH.upd_le (x := (true,.cells #[.func fn0 x0 y0] 142 (0,0))) hr
 refine hk r _ le1 ⟨rfl,by show 1 < _; omega,?_⟩
 intro i g hg
 have hc:∀ i v,(#[.func fn0 x0 y0]:Array Value)[i]? = some v -> Cells.cell? (h.get.upd r (true,.cells #[.func fn0 x0 y0] 142 (0,0))) (Addr.add ⟨r,0,none⟩ (i * 1)) = some v := by
  intro i v hv
  rw [add_plain,Nat.zero_add,Nat.mul_one]
  exact cell_upd hv
 match i,hg with
 | 0,hg => simp at hg; subst hg; exact ⟨_,_,rfl,hc 0 _ rfl,a0.le le1⟩
 | i + 1,hg => simp at hg
theorem asks2 {h:LH} {X:XP} {Q:Leaf -> LH -> Prop} {k:Value -> T} {u:UseFile} {v0 v1:Value} {g0 g1:Int} (q0:∃ fn a b,v0 = Value.func fn a b) (a0:Asks v0 h u g0) (q1:∃ fn a b,v1 = Value.func fn a b) (a1:Asks v1 h u g1) (hk:∀ r h',h.le h' -> AskSl h' (some ⟨r,0,none⟩) 2 u [g0,g1] -> (k (.slice (some ⟨r,0,none⟩) 2 2)).wp X Tryz.prog Q h'):(T.sem false (Instr.buildSlice 185 2 #[(0,v0),(1,v1)]) k).wp X Tryz.prog Q h := by
 obtain ⟨fn0,x0,y0,rfl⟩ := q0
 obtain ⟨fn1,x1,y1,rfl⟩ := q1
 refine t_build und110 inf87 (by decide) (by decide) (cells := #[.func fn0 x0 y0,.func fn1 x1 y1]) (by kernel_rfl) fun r hr => ?_
 have le1:h.le _ := LH.upd_le (x := (true,.cells #[.func fn0 x0 y0,.func fn1 x1 y1] 142 (0,0))) hr
 refine hk r _ le1 ⟨rfl,by show 2 < _; omega,?_⟩
 intro i g hg
 have hc:∀ i v,(#[.func fn0 x0 y0,.func fn1 x1 y1]:Array Value)[i]? = some v -> Cells.cell? (h.get.upd r (true,.cells #[.func fn0 x0 y0,.func fn1 x1 y1] 142 (0,0))) (Addr.add ⟨r,0,none⟩ (i * 1)) = some v := by
  intro i v hv
  rw [add_plain,Nat.zero_add,Nat.mul_one]
  exact cell_upd hv
 match i,hg with
 | 0,hg => simp at hg; subst hg; exact ⟨_,_,rfl,hc 0 _ rfl,a0.le le1⟩
 | 1,hg => simp at hg; subst hg; exact ⟨_,_,rfl,hc 1 _ rfl,a1.le le1⟩
 | i + 2,hg => simp at hg
theorem asks3 {h:LH} {X:XP} {Q:Leaf -> LH -> Prop} {k:Value -> T} {u:UseFile} {v0 v1 v2:Value} {g0 g1 g2:Int} (q0:∃ fn a b,v0 = Value.func fn a b) (a0:Asks v0 h u g0) (q1:∃ fn a b,v1 = Value.func fn a b) (a1:Asks v1 h u g1) (q2:∃ fn a b,v2 = Value.func fn a b) (a2:Asks v2 h u g2) (hk:∀ r h',h.le h' -> AskSl h' (some ⟨r,0,none⟩) 3 u [g0,g1,g2] -> (k (.slice (some ⟨r,0,none⟩) 3 3)).wp X Tryz.prog Q h'):(T.sem false (Instr.buildSlice 185 3 #[(0,v0),(1,v1),(2,v2)]) k).wp X Tryz.prog Q h := by
 obtain ⟨fn0,x0,y0,rfl⟩ := q0
 obtain ⟨fn1,x1,y1,rfl⟩ := q1
 obtain ⟨fn2,x2,y2,rfl⟩ := q2
 refine t_build und110 inf87 (by decide) (by decide) (cells := #[.func fn0 x0 y0,.func fn1 x1 y1,.func fn2 x2 y2]) (by kernel_rfl) fun r hr => ?_
 have le1:h.le _ := LH.upd_le (x := (true,.cells #[.func fn0 x0 y0,.func fn1 x1 y1,.func fn2 x2 y2] 142 (0,0))) hr
 refine hk r _ le1 ⟨rfl,by show 3 < _; omega,?_⟩
 intro i g hg
 have hc:∀ i v,(#[.func fn0 x0 y0,.func fn1 x1 y1,.func fn2 x2 y2]:Array Value)[i]? = some v -> Cells.cell? (h.get.upd r (true,.cells #[.func fn0 x0 y0,.func fn1 x1 y1,.func fn2 x2 y2] 142 (0,0))) (Addr.add ⟨r,0,none⟩ (i * 1)) = some v := by
  intro i v hv
  rw [add_plain,Nat.zero_add,Nat.mul_one]
  exact cell_upd hv
 match i,hg with
 | 0,hg => simp at hg; subst hg; exact ⟨_,_,rfl,hc 0 _ rfl,a0.le le1⟩
 | 1,hg => simp at hg; subst hg; exact ⟨_,_,rfl,hc 1 _ rfl,a1.le le1⟩
 | 2,hg => simp at hg; subst hg; exact ⟨_,_,rfl,hc 2 _ rfl,a2.le le1⟩
 | i + 3,hg => simp at hg
theorem open_num {u:UseFile} {l:List Int} (h:openF u l = 0):numbersF u = 0 /\ checkF u = 0 := by
 unfold openF at h
 split at h
 ·rename_i h1; exact absurd h h1
 ·rename_i h1
  have:checkF u = 0 := by simpa using h1
  exact ⟨check_num this,this⟩
theorem firstF_zero {l:List Int}:∀ {i:Nat},firstF (fun _ x => x) i l = 0 -> ∀ x ∈ l,x = 0 := by
 induction l with
 | nil => intro i _ x hx; simp at hx
 | cons y l ih =>
  intro i h x hx
  unfold firstF at h
  split at h
  ·rename_i h1; exact absurd h h1
  ·rename_i h1
   have hy:y = 0 := by simpa using h1
   rcases List.mem_cons.1 hx with rfl | hx
   ·exact hy
   ·exact ih h x hx
theorem open_zero {u:UseFile} {l:List Int} (h:openF u l = 0):∀ x ∈ l,x = 0 := by
 have h0 := (open_num h).2
 unfold openF at h
 rw [if_neg (by simp [h0])] at h
 exact firstF_zero h
theorem dayQ_zero {d:Int} (h:dayQ d = 0):0 <= d /\ d <= 2000 := by
 unfold dayQ at h
 split at h
 ·rename_i h1; simpa [isDay,isIn] using h1
 ·cases h
def windowR (u:UseFile) (day:Int):Value := if openF u [dayQ day] ≠ 0 then .tuple #[.agg #[.int .i64 0,.int .i64 0],.int .i64 (openF u [dayQ day])] else .tuple #[.agg #[.int .i64 (window u day).first,.int .i64 day],.int .i64 0]
theorem c17 {h:LH} {f:FileC} {u:UseFile} (hp:Parts h.get) (hu:FileR h.get f u) (day:Int):Gr Tryz.prog 33 #[fileV f u,.int .i64 day] h fun r _ => r = windowR u day := by
 refine w17 _ _ _ _ _ _ _ _ _ _ _ _ _ _ X0_ok ?_
 unfold n17
 refine t_gr (c54 u day) ?_
 rintro v h₁ le1 ⟨q,a⟩
 refine gZ ?_
 refine asks1 q a fun r h₂ le2 hs => ?_
 refine gZ ?_
 have le12 := LH.le_trans le1 le2
 refine t_call (c53 (f := f) (hp.le le12.1) (hu.le le12.1) hs) ?_
 rintro v h₃ ⟨le3,⟨hne,rfl⟩ | ⟨h0,d,m,rfl,hd,hm,k⟩⟩
 ·refine gZ ?_
  refine t_cond (fun _ => ?_) (fun e => absurd (by simpa using e) hne)
  refine t_ret ⟨LH.le_trans le12 le3,?_⟩
  show _ = windowR u day
  rw [windowR,if_pos hne]
 ·refine gZ ?_
  refine t_cond (fun e => by cases e) (fun _ => ?_)
  have hq := dayQ_zero (open_zero h0 _ (by simp; rfl))
  refine t_de (c55 k (num_ok (open_num h0).1).2.2.2 day hq) ?_
  rintro _ h₄ mv k4 rfl
  refine gZ ?_
  refine t_ret ⟨LH.le_trans le12 (Mv.le_of le3 hm mv),?_⟩
  show _ = windowR u day
  rw [windowR,if_neg (by simpa using h0)]
end Go.Proofs.YtgljffachdhigaaGreatDoor
end
section
namespace Go.Proofs.YtgljffachdhigaaGreatDoor
open Go Go.TM Go.Proofs
set_option linter.unusedVariables false
set_option maxRecDepth 100000
variable {X:XP} {h:LH} {A:Value -> LH -> Prop}
noncomputable def n15 (u_0 u_1 u_2 u_3:Int) (u_4p:Option Addr) (u_4n u_4c:Nat) (u_5p:Option Addr) (u_5n u_5c:Nat) (u_6p:Option Addr) (u_6n u_6c:Nat):T := .blk (bif decide ((↑u_4n:Int) > 20) then .leaf (.retn [.bool true]) else bif decide ((↑u_5n:Int) > 20) then .leaf (.retn [.bool true]) else bif decide ((↑u_6n:Int) > 20) then .leaf (.retn [.bool true]) else .leaf (.again [.bool false])) (fun vs => .popB vs fun b vs => .unNil vs (.loop [.bool b,.int .i64 0] (fun vs => .popB vs fun b vs => .popI .i64 vs fun n vs => .unNil vs (bif decide (n < (↑u_5n:Int)) then .need (0 <= n /\ n < (↑u_5n:Int)) (.someA u_5p fun a => .loadS ((a.add (n.toNat * 4)).add 3) fun p n_1 c => bif decide ((↑n_1:Int) > 20) then .leaf (.retn [.bool true,.int .i64 n]) else .leaf (.again [.bool b,.int .i64 (IntKind.wrap .i64 (n + 1))])) else .leaf (.brk [.bool b,.int .i64 n]))) (fun vs => .popB vs fun b vs => .popI .i64 vs fun n vs => .unNil vs (.loop [.bool b,.int .i64 0] (fun vs => .popB vs fun b vs => .popI .i64 vs fun n vs => .unNil vs (bif decide (n < (↑u_6n:Int)) then .need (0 <= n /\ n < (↑u_6n:Int)) (.someA u_6p fun a => .loadS ((a.add (n.toNat * 3)).add 2) fun p n_1 c => bif decide ((↑n_1:Int) > 20) then .leaf (.retn [.bool true,.int .i64 n]) else .leaf (.again [.bool b,.int .i64 (IntKind.wrap .i64 (n + 1))])) else .leaf (.brk [.bool b,.int .i64 n]))) (fun vs => .popB vs fun b vs => .popI .i64 vs fun n vs => .unNil vs (.leaf (.ret (.bool false)))) (fun vs => .popB vs fun b vs => .popI .i64 vs fun n vs => .unNil vs (.leaf (.ret (.bool b)))) fun x x_1 => .fail)) (fun vs => .popB vs fun b vs => .popI .i64 vs fun n vs => .unNil vs (.leaf (.ret (.bool b)))) fun x x_1 => .fail)) (fun vs => .popB vs fun b vs => .unNil vs (.leaf (.ret (.bool b)))) fun x x_1 => .fail
theorem w15 (u_0 u_1 u_2 u_3:Int) (u_4p:Option Addr) (u_4n u_4c:Nat) (u_5p:Option Addr) (u_5n u_5c:Nat) (u_6p:Option Addr) (u_6n u_6c:Nat) (hX:XOK X) (hw:(n15 u_0 u_1 u_2 u_3 u_4p u_4n u_4c u_5p u_5n u_5c u_6p u_6n u_6c).wp X Tryz.prog (retQ A) h):FWK X Tryz.prog .normal 26 #[.agg #[.int .i64 u_0,.int .i64 u_1,.int .i64 u_2,.int .i64 u_3,.slice u_4p u_4n u_4c,.slice u_5p u_5n u_5c,.slice u_6p u_6n u_6c]] h A := fwk_neat (priv := [1]) (loops := [{ id := 0,slots := [(2,.bool),(3,.int .i64)],ro := [1],outs := [] },{ id := 2,slots := [(2,.bool),(4,.int .i64)],ro := [1],outs := [] }]) (joins := [{ id := 3,slots := [(2,.bool)],ro := [1],outs := [] }]) (fd := Tryz.f26) (by kernel_rfl) (by simp) (by kernel_rfl) (by kernel_rfl) hX hw
noncomputable def n25 (ap:Option Addr) (an ac:Nat) (bp:Option Addr) (bn bc:Nat):T := bif (↑an:Int) != (↑bn:Int) then .leaf (.ret (.bool false)) else .loop [.bool false,.int .i64 0] (fun vs => .popB vs fun b vs => .popI .i64 vs fun n vs => .unNil vs (bif decide (n < (↑an:Int)) then .need (0 <= n /\ n < (↑an:Int)) (.someA ap fun a => .loadI .i64 (a.add (n.toNat * 1)) fun n_1 => .need (0 <= n /\ n < (↑bn:Int)) (.someA bp fun a => .loadI .i64 (a.add (n.toNat * 1)) fun n_2 => bif n_1 != n_2 then .leaf (.retn [.bool false,.int .i64 n]) else .leaf (.again [.bool b,.int .i64 (IntKind.wrap .i64 (n + 1))]))) else .leaf (.brk [.bool b,.int .i64 n]))) (fun vs => .popB vs fun b vs => .popI .i64 vs fun n vs => .unNil vs (.leaf (.ret (.bool true)))) (fun vs => .popB vs fun b vs => .popI .i64 vs fun n vs => .unNil vs (.leaf (.ret (.bool b)))) fun x x_1 => .fail
theorem w25 (ap:Option Addr) (an ac:Nat) (bp:Option Addr) (bn bc:Nat) (hX:XOK X) (hw:(n25 ap an ac bp bn bc).wp X Tryz.prog (retQ A) h):FWK X Tryz.prog .normal 42 #[.slice ap an ac,.slice bp bn bc] h A := fwk_neat (priv := []) (loops := [{ id := 0,slots := [(4,.bool),(5,.int .i64)],ro := [],outs := [] }]) (joins := []) (fd := Tryz.f42) (by kernel_rfl) (by simp) (by kernel_rfl) (by kernel_rfl) hX hw
noncomputable def n27 (u_0 u_1 u_2 u_3:Int) (u_4p:Option Addr) (u_4n u_4c:Nat) (u_5p:Option Addr) (u_5n u_5c:Nat) (u_6p:Option Addr) (u_6n u_6c:Nat):T := .blk (.call false 55 #[.int .i64 u_0,.int .i64 0,.int .i64 6] fun v => .unB v fun b => bif !b then .leaf (.retn [.int .i64 1]) else .call false 55 #[.int .i64 u_1,.int .i64 1,.int .i64 3] fun v => .unB v fun b => bif !b then .leaf (.retn [.int .i64 1]) else .call false 72 #[.int .i64 u_2] fun v => .unB v fun b => bif !b then .leaf (.retn [.int .i64 1]) else .call false 55 #[.int .i64 u_3,.int .i64 1,.int .i64 2000] fun v => .unB v fun b => bif !b then .leaf (.retn [.int .i64 1]) else .leaf (.again [.int .i64 0])) (fun vs => .popI .i64 vs fun n vs => .unNil vs (.call false 73 #[.slice u_4p u_4n u_4c] fun v => .unI .i64 v fun n => bif n != 0 then .leaf (.ret (.int .i64 n)) else .call false 74 #[.agg #[.int .i64 u_0,.int .i64 u_1,.int .i64 u_2,.int .i64 u_3,.slice u_4p u_4n u_4c,.slice u_5p u_5n u_5c,.slice u_6p u_6n u_6c]] fun v => .unI .i64 v fun n => bif n != 0 then .leaf (.ret (.int .i64 n)) else .call false 75 #[.agg #[.int .i64 u_0,.int .i64 u_1,.int .i64 u_2,.int .i64 u_3,.slice u_4p u_4n u_4c,.slice u_5p u_5n u_5c,.slice u_6p u_6n u_6c]] fun v => .unI .i64 v fun n => .leaf (.ret (.int .i64 n)))) (fun vs => .popI .i64 vs fun n vs => .unNil vs (.leaf (.ret (.int .i64 n)))) fun x x_1 => .fail
theorem w27 (u_0 u_1 u_2 u_3:Int) (u_4p:Option Addr) (u_4n u_4c:Nat) (u_5p:Option Addr) (u_5n u_5c:Nat) (u_6p:Option Addr) (u_6n u_6c:Nat) (hX:XOK X) (hw:(n27 u_0 u_1 u_2 u_3 u_4p u_4n u_4c u_5p u_5n u_5c u_6p u_6n u_6c).wp X Tryz.prog (retQ A) h):FWK X Tryz.prog .normal 27 #[.agg #[.int .i64 u_0,.int .i64 u_1,.int .i64 u_2,.int .i64 u_3,.slice u_4p u_4n u_4c,.slice u_5p u_5n u_5c,.slice u_6p u_6n u_6c]] h A := fwk_neat (priv := [1]) (loops := []) (joins := [{ id := 3,slots := [(2,.int .i64)],ro := [1],outs := [] }]) (fd := Tryz.f27) (by kernel_rfl) (by simp) (by kernel_rfl) (by kernel_rfl) hX hw
noncomputable def n30 (ap:Option Addr) (an ac:Nat) (bp:Option Addr) (bn bc:Nat):T := bif (↑an:Int) != (↑bn:Int) then .leaf (.ret (.bool false)) else .loop [.bool false,.int .i64 0] (fun vs => .popB vs fun b vs => .popI .i64 vs fun n vs => .unNil vs (bif decide (n < (↑an:Int)) then .need (0 <= n /\ n < (↑an:Int)) (.someA ap fun a => .loadI .i64 ((a.add (n.toNat * 4)).add 0) fun n_1 => .loadI .i64 ((a.add (n.toNat * 4)).add 1) fun n_2 => .loadI .i64 ((a.add (n.toNat * 4)).add 2) fun n_3 => .loadI .i64 ((a.add (n.toNat * 4)).add 3) fun n_4 => .need (0 <= n /\ n < (↑bn:Int)) (.someA bp fun a_1 => .loadI .i64 ((a_1.add (n.toNat * 4)).add 0) fun n_5 => .loadI .i64 ((a_1.add (n.toNat * 4)).add 1) fun n_6 => .loadI .i64 ((a_1.add (n.toNat * 4)).add 2) fun n_7 => .loadI .i64 ((a_1.add (n.toNat * 4)).add 3) fun n_8 => .sem false (Sem.bind (eqGuard BinOp.neq 100 (Operand.tmp 20) (Operand.tmp 24) (.agg #[.int .i64 n_1,.int .i64 n_2,.int .i64 n_3,.int .i64 n_4]) (.agg #[.int .i64 n_5,.int .i64 n_6,.int .i64 n_7,.int .i64 n_8])) fun __r => binOp BinOp.neq 100 (.agg #[.int .i64 n_1,.int .i64 n_2,.int .i64 n_3,.int .i64 n_4]) (.agg #[.int .i64 n_5,.int .i64 n_6,.int .i64 n_7,.int .i64 n_8])) fun v => .unB v fun b_1 => .need (0 <= n /\ n < (↑bn:Int)) (.someA bp fun a_2 => .need (AV.val (.pointer (some (a_2.add (n.toNat * 4)))) = AV.val (.pointer (some (a_1.add (n.toNat * 4))))) (.nd (.int .i64 n) (.nd (.slice bp bn bc) (.need (0 <= n /\ n < (↑an:Int)) (.someA ap fun a_3 => .need (AV.val (.pointer (some (a_3.add (n.toNat * 4)))) = AV.val (.pointer (some (a.add (n.toNat * 4))))) (.nd (.int .i64 n) (.nd (.slice ap an ac) (bif b_1 then .leaf (.retn [.bool false,.int .i64 n]) else .leaf (.again [.bool b,.int .i64 (IntKind.wrap .i64 (n + 1))]))))))))))) else .leaf (.brk [.bool b,.int .i64 n]))) (fun vs => .popB vs fun b vs => .popI .i64 vs fun n vs => .unNil vs (.leaf (.ret (.bool true)))) (fun vs => .popB vs fun b vs => .popI .i64 vs fun n vs => .unNil vs (.leaf (.ret (.bool b)))) fun x x_1 => .fail
theorem w30 (ap:Option Addr) (an ac:Nat) (bp:Option Addr) (bn bc:Nat) (hX:XOK X) (hw:(n30 ap an ac bp bn bc).wp X Tryz.prog (retQ A) h):FWK X Tryz.prog .normal 43 #[.slice ap an ac,.slice bp bn bc] h A := fwk_neat (priv := []) (loops := [{ id := 0,slots := [(4,.bool),(5,.int .i64)],ro := [],outs := [] }]) (joins := []) (fd := Tryz.f43) (by kernel_rfl) (by simp) (by kernel_rfl) (by kernel_rfl) hX hw
noncomputable def n36 (u_0 u_1 u_2 u_3:Int) (u_4p:Option Addr) (u_4n u_4c:Nat) (u_5p:Option Addr) (u_5n u_5c:Nat) (u_6p:Option Addr) (u_6n u_6c:Nat):T := .call false 26 #[.agg #[.int .i64 u_0,.int .i64 u_1,.int .i64 u_2,.int .i64 u_3,.slice u_4p u_4n u_4c,.slice u_5p u_5n u_5c,.slice u_6p u_6n u_6c]] fun v => .unB v fun b => bif !b then .call false 27 #[.agg #[.int .i64 u_0,.int .i64 u_1,.int .i64 u_2,.int .i64 u_3,.slice u_4p u_4n u_4c,.slice u_5p u_5n u_5c,.slice u_6p u_6n u_6c]] fun v => .unI .i64 v fun n => .leaf (.ret (.bool (n == 0))) else .leaf (.ret (.bool false))
theorem w36 (u_0 u_1 u_2 u_3:Int) (u_4p:Option Addr) (u_4n u_4c:Nat) (u_5p:Option Addr) (u_5n u_5c:Nat) (u_6p:Option Addr) (u_6n u_6c:Nat) (hX:XOK X) (hw:(n36 u_0 u_1 u_2 u_3 u_4p u_4n u_4c u_5p u_5n u_5c u_6p u_6n u_6c).wp X Tryz.prog (retQ A) h):FWK X Tryz.prog .normal 5 #[.agg #[.int .i64 u_0,.int .i64 u_1,.int .i64 u_2,.int .i64 u_3,.slice u_4p u_4n u_4c,.slice u_5p u_5n u_5c,.slice u_6p u_6n u_6c]] h A := fwk_neat (priv := [1]) (loops := []) (joins := []) (fd := Tryz.f5) (by kernel_rfl) (by simp) (by kernel_rfl) (by kernel_rfl) hX hw
noncomputable def n37 (n:Int):T := .need ((2001:Int) ≠ 0) (.leaf (.ret (.int .i64 (Int.tmod (IntKind.wrap .i64 n) 2001))))
theorem w37 (n:Int) (hX:XOK X) (hw:(n37 n).wp X Tryz.prog (retQ A) h):FWK X Tryz.prog .normal 9 #[.int .u16 n] h A := fwk_neat (priv := []) (loops := []) (joins := []) (fd := Tryz.f9) (by kernel_rfl) (by simp) (by kernel_rfl) (by kernel_rfl) hX hw
noncomputable def n42 (a b:Int):T := .leaf (.ret (.agg #[.int .i64 a,.int .i64 b]))
theorem w42 (a b:Int) (hX:XOK X) (hw:(n42 a b).wp X Tryz.prog (retQ A) h):FWK X Tryz.prog .normal 40 #[.int .i64 a,.int .i64 b] h A := fwk_neat (priv := [4]) (loops := []) (joins := []) (fd := Tryz.f40) (by kernel_rfl) (by simp) (by kernel_rfl) (by kernel_rfl) hX hw
noncomputable def n52  : T := .call false 40 #[.int .i64 21,.int .i64 23] fun v => .unAgg v fun l => .popI .i64 l fun n vs => .popI .i64 vs fun n_1 vs => .unNil vs (.sem false (Instr.buildSlice 22 1 #[(0,.agg #[.int .i64 n,.int .i64 n_1])]) fun v => .unS v fun a n c => .call false 40 #[.int .i64 12,.int .i64 14] fun v => .unAgg v fun l => .popI .i64 l fun n_2 vs => .popI .i64 vs fun n_3 vs => .unNil vs (.sem false (Instr.buildSlice 30 2 #[(0,.int .i64 0),(1,.int .i64 1)]) fun v => .unS v fun a_1 n_4 c_1 => .call false 40 #[.int .i64 19,.int .i64 19] fun v => .unAgg v fun l => .popI .i64 l fun n_5 vs => .popI .i64 vs fun n_6 vs => .unNil vs (.sem false (Instr.buildSlice 30 1 #[(0,.int .i64 0)]) fun v => .unS v fun a_2 n_7 c_2 => .call false 40 #[.int .i64 17,.int .i64 26] fun v => .unAgg v fun l => .popI .i64 l fun n_8 vs => .popI .i64 vs fun n_9 vs => .unNil vs (.sem false (Instr.buildSlice 30 1 #[(0,.int .i64 2)]) fun v => .unS v fun a_3 n_10 c_3 => .call false 40 #[.int .i64 18,.int .i64 18] fun v => .unAgg v fun l => .popI .i64 l fun n_11 vs => .popI .i64 vs fun n_12 vs => .unNil vs (.sem false (Instr.buildSlice 30 2 #[(0,.int .i64 0),(1,.int .i64 1)]) fun v => .unS v fun a_4 n_13 c_4 => .sem false (Instr.buildSlice 23 4 #[(0,.agg #[.int .i64 n_2,.int .i64 n_3,.int .i64 0,.slice a_1 n_4 c_1]),(1,.agg #[.int .i64 n_5,.int .i64 n_6,.int .i64 0,.slice a_2 n_7 c_2]),(2,.agg #[.int .i64 n_8,.int .i64 n_9,.int .i64 0,.slice a_3 n_10 c_3]),(3,.agg #[.int .i64 n_11,.int .i64 n_12,.int .i64 1,.slice a_4 n_13 c_4])]) fun v => .unS v fun a_5 n_14 c_5 => .sem false (Instr.buildSlice 30 3 #[(0,.int .i64 0),(1,.int .i64 1),(2,.int .i64 2)]) fun v => .unS v fun a_6 n_15 c_6 => .sem false (Instr.buildSlice 30 2 #[(0,.int .i64 0),(1,.int .i64 2)]) fun v => .unS v fun a_7 n_16 c_7 => .sem false (Instr.buildSlice 24 2 #[(0,.agg #[.int .i64 20,.int .i64 0,.slice a_6 n_15 c_6]),(1,.agg #[.int .i64 25,.int .i64 0,.slice a_7 n_16 c_7])]) fun v => .unS v fun a_8 n_17 c_8 => .leaf (.ret (.agg #[.int .i64 3,.int .i64 2,.int .i64 10,.int .i64 5,.slice a n c,.slice a_5 n_14 c_5,.slice a_8 n_17 c_8])))))))
theorem w52  (hX:XOK X) (hw:(n52 ).wp X Tryz.prog (retQ A) h):FWK X Tryz.prog .normal 32 #[] h A := fwk_neat (priv := [0]) (loops := []) (joins := []) (fd := Tryz.f32) (by kernel_rfl) (by simp) (by kernel_rfl) (by kernel_rfl) hX hw
noncomputable def n56 (n:Int):T := .call false 55 #[.int .i64 n,.int .i64 0,.int .i64 2000] fun v => .unB v fun b => .leaf (.ret (.bool b))
theorem w56 (n:Int) (hX:XOK X) (hw:(n56 n).wp X Tryz.prog (retQ A) h):FWK X Tryz.prog .normal 72 #[.int .i64 n] h A := fwk_neat (priv := []) (loops := []) (joins := []) (fd := Tryz.f72) (by kernel_rfl) (by simp) (by kernel_rfl) (by kernel_rfl) hX hw
noncomputable def n66 (lp:Option Addr) (ln lc:Nat):T := bif decide ((↑ln:Int) > 4) then .leaf (.ret (.int .i64 2)) else .loop [.int .i64 0,.int .i64 0] (fun vs => .popI .i64 vs fun n vs => .popI .i64 vs fun n_1 vs => .unNil vs (bif decide (n_1 < (↑ln:Int)) then .need (0 <= n_1 /\ n_1 < (↑ln:Int)) (.someA lp fun a => .loadI .i64 ((a.add (n_1.toNat * 2)).add 0) fun n_2 => .loadI .i64 ((a.add (n_1.toNat * 2)).add 1) fun n_3 => .call false 110 #[.agg #[.int .i64 n_2,.int .i64 n_3],.int .i64 0,.int .i64 2000] fun v => .unB v fun b => bif !b then .leaf (.retn [.int .i64 1,.int .i64 n_1]) else .leaf (.again [.int .i64 n,.int .i64 (IntKind.wrap .i64 (n_1 + 1))])) else .leaf (.brk [.int .i64 n,.int .i64 n_1]))) (fun vs => .popI .i64 vs fun n vs => .popI .i64 vs fun n vs => .unNil vs (.leaf (.ret (.int .i64 0)))) (fun vs => .popI .i64 vs fun n vs => .popI .i64 vs fun n_1 vs => .unNil vs (.leaf (.ret (.int .i64 n)))) fun x x_1 => .fail
theorem w66 (lp:Option Addr) (ln lc:Nat) (hX:XOK X) (hw:(n66 lp ln lc).wp X Tryz.prog (retQ A) h):FWK X Tryz.prog .normal 73 #[.slice lp ln lc] h A := fwk_neat (priv := []) (loops := [{ id := 0,slots := [(2,.int .i64),(3,.int .i64)],ro := [],outs := [] }]) (joins := []) (fd := Tryz.f73) (by kernel_rfl) (by simp) (by kernel_rfl) (by kernel_rfl) hX hw
noncomputable def n67 (u_0 u_1 u_2 u_3:Int) (u_4p:Option Addr) (u_4n u_4c:Nat) (u_5p:Option Addr) (u_5n u_5c:Nat) (u_6p:Option Addr) (u_6n u_6c:Nat):T := bif decide ((↑u_5n:Int) > 8) then .leaf (.ret (.int .i64 2)) else .loop [.int .i64 0,.int .i64 0] (fun vs => .popI .i64 vs fun n vs => .popI .i64 vs fun n_1 vs => .unNil vs (bif decide (n_1 < (↑u_5n:Int)) then .need (0 <= n_1 /\ n_1 < (↑u_5n:Int)) (.someA u_5p fun a => .loadI .i64 ((a.add (n_1.toNat * 4)).add 0) fun n_2 => .loadI .i64 ((a.add (n_1.toNat * 4)).add 1) fun n_3 => .loadI .i64 ((a.add (n_1.toNat * 4)).add 2) fun n_4 => .loadS ((a.add (n_1.toNat * 4)).add 3) fun p n_5 c => .call false 110 #[.agg #[.int .i64 n_2,.int .i64 n_3],.int .i64 0,.int .i64 2000] fun v => .unB v fun b => bif !b then .leaf (.retn [.int .i64 1,.int .i64 n_1]) else .call false 55 #[.int .i64 n_4,.int .i64 0,.int .i64 (IntKind.wrap .i64 (u_1 - 1))] fun v => .unB v fun b => bif !b then .leaf (.retn [.int .i64 6,.int .i64 n_1]) else .call false 111 #[.slice p n_5 c,.int .i64 u_0] fun v => .unI .i64 v fun n_6 => bif n_6 != 0 then .leaf (.retn [.int .i64 n_6,.int .i64 n_1]) else .leaf (.again [.int .i64 n,.int .i64 (IntKind.wrap .i64 (n_1 + 1))])) else .leaf (.brk [.int .i64 n,.int .i64 n_1]))) (fun vs => .popI .i64 vs fun n vs => .popI .i64 vs fun n vs => .unNil vs (.leaf (.ret (.int .i64 0)))) (fun vs => .popI .i64 vs fun n vs => .popI .i64 vs fun n_1 vs => .unNil vs (.leaf (.ret (.int .i64 n)))) fun x x_1 => .fail
theorem w67 (u_0 u_1 u_2 u_3:Int) (u_4p:Option Addr) (u_4n u_4c:Nat) (u_5p:Option Addr) (u_5n u_5c:Nat) (u_6p:Option Addr) (u_6n u_6c:Nat) (hX:XOK X) (hw:(n67 u_0 u_1 u_2 u_3 u_4p u_4n u_4c u_5p u_5n u_5c u_6p u_6n u_6c).wp X Tryz.prog (retQ A) h):FWK X Tryz.prog .normal 74 #[.agg #[.int .i64 u_0,.int .i64 u_1,.int .i64 u_2,.int .i64 u_3,.slice u_4p u_4n u_4c,.slice u_5p u_5n u_5c,.slice u_6p u_6n u_6c]] h A := fwk_neat (priv := [1,4]) (loops := [{ id := 0,slots := [(2,.int .i64),(3,.int .i64)],ro := [1],outs := [] }]) (joins := []) (fd := Tryz.f74) (by kernel_rfl) (by simp) (by kernel_rfl) (by kernel_rfl) hX hw
noncomputable def n68 (u_0 u_1 u_2 u_3:Int) (u_4p:Option Addr) (u_4n u_4c:Nat) (u_5p:Option Addr) (u_5n u_5c:Nat) (u_6p:Option Addr) (u_6n u_6c:Nat):T := bif decide ((↑u_6n:Int) > 4) then .leaf (.ret (.int .i64 2)) else .loop [.int .i64 0,.int .i64 0] (fun vs => .popI .i64 vs fun n vs => .popI .i64 vs fun n_1 vs => .unNil vs (bif decide (n_1 < (↑u_6n:Int)) then .need (0 <= n_1 /\ n_1 < (↑u_6n:Int)) (.someA u_6p fun a => .loadI .i64 ((a.add (n_1.toNat * 3)).add 0) fun n_2 => .loadI .i64 ((a.add (n_1.toNat * 3)).add 1) fun n_3 => .loadS ((a.add (n_1.toNat * 3)).add 2) fun p n_4 c => .call false 72 #[.int .i64 n_2] fun v => .unB v fun b => bif !b then .leaf (.retn [.int .i64 1,.int .i64 n_1]) else .blk (bif decide (n_2 < u_2) then .nd (.bool (decide (n_2 < u_2))) (.nd (.int .i64 u_2) (.need (AV.pp 1 2 = AV.pp 1 2) (.nd (.int .i64 n_2) (.need (AV.pp 4 0 = AV.pp 4 0) (.nd (.tuple #[]) (.nd (.tuple #[]) (.nd (.tuple #[]) (.nd (.tuple #[]) (.nd (.bool (decide (n_2 < u_2))) (.nd (.int .i64 u_2) (.need (AV.pp 1 2 = AV.pp 1 2) (.nd (.int .i64 n_2) (.need (AV.pp 4 0 = AV.pp 4 0) (.nd (.tuple #[]) (.nd (.tuple #[]) (.nd (.tuple #[]) (.nd (.tuple #[]) (.nd (.tuple #[]) (.nd (.bool (decide (n_2 < u_2))) (.nd (.int .i64 u_2) (.need (AV.pp 1 2 = AV.pp 1 2) (.nd (.int .i64 n_2) (.need (AV.pp 4 0 = AV.pp 4 0) (.leaf (.retn [.int .i64 7]))))))))))))))))))))))))) else bif decide (n_1 > 0) then .need (0 <= IntKind.wrap .i64 (n_1 - 1) /\ IntKind.wrap .i64 (n_1 - 1) < (↑u_6n:Int)) (.someA u_6p fun a => .loadI .i64 ((a.add ((IntKind.wrap .i64 (n_1 - 1)).toNat * 3)).add 0) fun n_5 => bif decide (n_2 < n_5) then .leaf (.retn [.int .i64 7]) else .leaf (.again [.int .i64 n])) else .nd (.tuple #[]) (.nd (.tuple #[]) (.nd (.tuple #[]) (.nd (.tuple #[]) (.nd (.bool (decide (n_1 > 0))) (.nd (.int .i64 n_1) (.need (AV.val (.bool (decide (n_2 < u_2))) = AV.val (.bool false)) (.nd (.bool (decide (n_2 < u_2))) (.nd (.int .i64 u_2) (.need (AV.pp 1 2 = AV.pp 1 2) (.nd (.int .i64 n_2) (.need (AV.pp 4 0 = AV.pp 4 0) (.nd (.tuple #[]) (.nd (.tuple #[]) (.nd (.tuple #[]) (.nd (.tuple #[]) (.nd (.tuple #[]) (.nd (.bool (decide (n_1 > 0))) (.nd (.int .i64 n_1) (.need (AV.val (.bool (decide (n_2 < u_2))) = AV.val (.bool false)) (.nd (.bool (decide (n_2 < u_2))) (.nd (.int .i64 u_2) (.need (AV.pp 1 2 = AV.pp 1 2) (.nd (.int .i64 n_2) (.need (AV.pp 4 0 = AV.pp 4 0) (.leaf (.again [.int .i64 n]))))))))))))))))))))))))))) (fun vs => .popI .i64 vs fun n vs => .unNil vs (.call false 55 #[.int .i64 n_3,.int .i64 0,.int .i64 (IntKind.wrap .i64 (u_1 - 1))] fun v => .unB v fun b => bif !b then .leaf (.retn [.int .i64 6,.int .i64 n_1]) else .call false 111 #[.slice p n_4 c,.int .i64 u_0] fun v => .unI .i64 v fun n_5 => bif n_5 != 0 then .leaf (.retn [.int .i64 n_5,.int .i64 n_1]) else .leaf (.again [.int .i64 n,.int .i64 (IntKind.wrap .i64 (n_1 + 1))]))) (fun vs => .popI .i64 vs fun n vs => .unNil vs (.leaf (.retn [.int .i64 n,.int .i64 n_1]))) fun x x_1 => .fail) else .leaf (.brk [.int .i64 n,.int .i64 n_1]))) (fun vs => .popI .i64 vs fun n vs => .popI .i64 vs fun n vs => .unNil vs (.leaf (.ret (.int .i64 0)))) (fun vs => .popI .i64 vs fun n vs => .popI .i64 vs fun n_1 vs => .unNil vs (.leaf (.ret (.int .i64 n)))) fun x x_1 => .fail
theorem w68 (u_0 u_1 u_2 u_3:Int) (u_4p:Option Addr) (u_4n u_4c:Nat) (u_5p:Option Addr) (u_5n u_5c:Nat) (u_6p:Option Addr) (u_6n u_6c:Nat) (hX:XOK X) (hw:(n68 u_0 u_1 u_2 u_3 u_4p u_4n u_4c u_5p u_5n u_5c u_6p u_6n u_6c).wp X Tryz.prog (retQ A) h):FWK X Tryz.prog .normal 75 #[.agg #[.int .i64 u_0,.int .i64 u_1,.int .i64 u_2,.int .i64 u_3,.slice u_4p u_4n u_4c,.slice u_5p u_5n u_5c,.slice u_6p u_6n u_6c]] h A := fwk_neat (priv := [1,4]) (loops := [{ id := 0,slots := [(2,.int .i64),(3,.int .i64)],ro := [1],outs := [] }]) (joins := [{ id := 11,slots := [(2,.int .i64)],ro := [1,4],outs := [] }]) (fd := Tryz.f75) (by kernel_rfl) (by simp) (by kernel_rfl) (by kernel_rfl) hX hw
noncomputable def n72 (lp:Option Addr) (ln lc:Nat) (below:Int):T := .loop [.int .i64 0,.int .i64 0] (fun vs => .popI .i64 vs fun n vs => .popI .i64 vs fun n_1 vs => .unNil vs (bif decide (n_1 < (↑ln:Int)) then .need (0 <= n_1 /\ n_1 < (↑ln:Int)) (.someA lp fun a => .loadI .i64 (a.add (n_1.toNat * 1)) fun n_2 => .call false 55 #[.int .i64 n_2,.int .i64 0,.int .i64 (IntKind.wrap .i64 (below - 1))] fun v => .unB v fun b => bif !b then .leaf (.retn [.int .i64 6,.int .i64 n_1]) else bif decide (n_1 > 0) then .need (0 <= n_1 /\ n_1 < (↑ln:Int)) (.someA lp fun a => .loadI .i64 (a.add (n_1.toNat * 1)) fun n_3 => .need (0 <= IntKind.wrap .i64 (n_1 - 1) /\ IntKind.wrap .i64 (n_1 - 1) < (↑ln:Int)) (.someA lp fun a => .loadI .i64 (a.add ((IntKind.wrap .i64 (n_1 - 1)).toNat * 1)) fun n_4 => bif decide (n_3 <= n_4) then .leaf (.retn [.int .i64 7,.int .i64 n_1]) else .leaf (.again [.int .i64 n,.int .i64 (IntKind.wrap .i64 (n_1 + 1))]))) else .nd (.tuple #[]) (.nd (.tuple #[]) (.nd (.tuple #[]) (.nd (.tuple #[]) (.nd (.tuple #[]) (.nd (.bool (decide (n_1 > 0))) (.nd (.int .i64 n_1) (.nd (.tuple #[]) (.nd (.tuple #[]) (.nd (.tuple #[]) (.nd (.tuple #[]) (.nd (.tuple #[]) (.nd (.bool (decide (n_1 > 0))) (.nd (.int .i64 n_1) (.leaf (.again [.int .i64 n,.int .i64 (IntKind.wrap .i64 (n_1 + 1))])))))))))))))))) else .leaf (.brk [.int .i64 n,.int .i64 n_1]))) (fun vs => .popI .i64 vs fun n vs => .popI .i64 vs fun n vs => .unNil vs (.leaf (.ret (.int .i64 0)))) (fun vs => .popI .i64 vs fun n vs => .popI .i64 vs fun n_1 vs => .unNil vs (.leaf (.ret (.int .i64 n)))) fun x x_1 => .fail
theorem w72 (lp:Option Addr) (ln lc:Nat) (below:Int) (hX:XOK X) (hw:(n72 lp ln lc below).wp X Tryz.prog (retQ A) h):FWK X Tryz.prog .normal 111 #[.slice lp ln lc,.int .i64 below] h A := fwk_neat (priv := []) (loops := [{ id := 0,slots := [(4,.int .i64),(5,.int .i64)],ro := [],outs := [] }]) (joins := []) (fd := Tryz.f111) (by kernel_rfl) (by simp) (by kernel_rfl) (by kernel_rfl) hX hw
noncomputable def n93 (x_0 x_1 first last:Int):T := bif decide (first <= x_0) then bif decide (x_0 <= x_1) then .leaf (.ret (.bool (decide (x_1 <= last)))) else .leaf (.ret (.bool false)) else .leaf (.ret (.bool false))
theorem w93 (x_0 x_1 first last:Int) (hX:XOK X) (hw:(n93 x_0 x_1 first last).wp X Tryz.prog (retQ A) h):FWK X Tryz.prog .normal 110 #[.agg #[.int .i64 x_0,.int .i64 x_1],.int .i64 first,.int .i64 last] h A := fwk_neat (priv := [3]) (loops := []) (joins := []) (fd := Tryz.f110) (by kernel_rfl) (by simp) (by kernel_rfl) (by kernel_rfl) hX hw
end Go.Proofs.YtgljffachdhigaaGreatDoor
end
section
namespace Go.Proofs.YtgljffachdhigaaGreatDoor
open Go Go.TM Go.Proofs
attribute [local irreducible] T.wp CV FWK
theorem c49 {h:LH} (n a b:Int):Pu Tryz.prog 55 #[.int .i64 n,.int .i64 a,.int .i64 b] h (.bool (isIn n a b)) := by
 refine w49 _ _ _ X0_ok ?_
 unfold n49
 refine t_if (fun e => ?_) (fun e => ?_) <;> refine t_ret ⟨?_,rfl⟩ <;> simp [isIn,e]
theorem c56 {h:LH} (n:Int):Pu Tryz.prog 72 #[.int .i64 n] h (.bool (isDay n)) := by
 refine w56 _ X0_ok ?_
 unfold n56
 refine t_pu (c49 _ _ _) ?_
 refine gZ ?_
 exact t_ret ⟨rfl,rfl⟩
theorem c93 {h:LH} (a b x y:Int):Pu Tryz.prog 110 #[.agg #[.int .i64 a,.int .i64 b],.int .i64 x,.int .i64 y] h (.bool (decide (x <= a) && (decide (a <= b) && decide (b <= y)))) := by
 refine w93 _ _ _ _ X0_ok ?_
 unfold n93
 refine t_if (fun e => ?_) (fun e => ?_)
 ·refine t_if (fun e' => ?_) (fun e' => ?_) <;> refine t_ret ⟨?_,rfl⟩ <;> simp [e,e']
 ·refine t_ret ⟨?_,rfl⟩; simp [e]
theorem inside_span (x:Span):(decide ((0:Int) <= x.first) && (decide (x.first <= x.last) && decide (x.last <= 2000))) = isSpan x := by
 unfold isSpan isDay isIn
 rw [Bool.eq_iff_iff]
 simp only [Bool.and_eq_true,decide_eq_true_eq]
 omega
theorem c72 {h:LH} {below:Int} {p:Option Addr} {n c:Nat} {l:List Int} (hl:Sl IntE 1 h.get p n l) (hb:IsI (below - 1)):Pu Tryz.prog 111 #[.slice p n c,.int .i64 below] h (.int .i64 (risesF l below)) := by
 refine w72 _ _ _ _ X0_ok ?_
 unfold n72
 have hn := hl.1
 have hbn := hl.2.1
 have hw:IntKind.wrap .i64 (below - 1) = below - 1 := wrap_id hb.1 hb.2
 refine t_loop (fun mm vs h' => h = h' /\ ∃ i:Nat,vs = [.int .i64 0,.int .i64 i] /\ i <= n /\ mm = n - i /\ risesF l below = firstF (riseF l below) i (l.drop i)) ⟨rfl,0,rfl,Nat.zero_le _,rfl,rfl⟩ ?_
 rintro Y mm vs _ hY ⟨rfl,i,rfl,hi,rfl,hc⟩
 refine gZ ?_
 refine t_if (fun e => ?_) (fun e => ?_)
 ·obtain ⟨x,a,hx,ha,e1⟩ := hl.at (i := i) (by omega)
  unfold IntE at e1
  rw [drop_of hx,firstF] at hc
  refine gZ ?_
  refine t_pu (c49 _ _ _) ?_
  refine gZ ?_
  rw [hw]
  have next:riseF l below i x = 0 -> Y [.int .i64 0,.int .i64 (IntKind.wrap .i64 ((i:Int) + 1))] h := by
   intro hz
   rw [if_neg (by simp [hz])] at hc
   refine hY (n - (i + 1)) _ _ (by omega) ⟨rfl,i + 1,?_,by omega,rfl,hc⟩
   rw [wrap_id (by omega) (by omega)]; rfl
  have stop:∀ z:Int,z ≠ 0 -> riseF l below i x = z -> risesF l below = z := by
   intro z hz hr
   rw [if_pos (by rw [hr]; exact hz),hr] at hc; exact hc
  refine t_cond (fun b => ?_) (fun b => ?_)
  ·refine gZ ?_
   have b':isIn x 0 (below - 1) = false := by simpa using b
   exact t_ret ⟨by rw [stop 6 (by omega) (by rw [riseF,if_pos b'])],rfl⟩
  ·have b':¬ isIn x 0 (below - 1) = false := by simp at b; simp [b]
   refine t_if (fun e2 => ?_) (fun e2 => ?_)
   ·obtain ⟨y,a2,hy,ha2,e3⟩ := hl.at (i := i - 1) (by omega)
    unfold IntE at e3
    rw [ha] at ha2; cases ha2
    have hwi:IntKind.wrap .i64 ((i:Int) - 1) = ((i - 1:Nat):Int) := by rw [wrap_id (by omega) (by omega)]; omega
    have hg:l.getD (i - 1) 0 = y := by simp [List.getD,hy]
    rw [hwi]
    refine gZ ?_
    refine t_if (fun e4 => ?_) (fun e4 => ?_)
    ·refine gZ ?_
     exact t_ret ⟨by rw [stop 7 (by omega) (by rw [riseF,if_neg b',if_pos ⟨by omega,by rw [hg]; exact e4⟩])],rfl⟩
    ·exact t_again (next (by rw [riseF,if_neg b',if_neg (by rw [hg]; omega)]))
   ·refine gZ ?_
    exact t_again (next (by rw [riseF,if_neg b',if_neg (by omega)]))
 ·refine gZ ?_
  rw [List.drop_eq_nil_of_le (by omega)] at hc
  exact t_ret ⟨by rw [hc]; rfl,rfl⟩
theorem c66 {h:LH} {p:Option Addr} {n c:Nat} {l:List Span} (hl:Sl SpanE 2 h.get p n l):Pu Tryz.prog 73 #[.slice p n c] h (.int .i64 (eachF 4 (fun _ x => if isSpan x then 0 else 1) l)) := by
 refine w66 _ _ _ X0_ok ?_
 unfold n66
 have hn := hl.1
 have hbn := hl.2.1
 refine t_if (fun e => ?_) (fun e => ?_)
 ·exact t_ret ⟨by rw [eachF,if_pos (by omega)],rfl⟩
 have he:eachF 4 (fun _ x => if isSpan x then 0 else 1) l = firstF (fun _ x => if isSpan x then 0 else 1) 0 l := by rw [eachF,if_neg (by omega)]
 refine t_loop (fun mm vs h' => h = h' /\ ∃ i:Nat,vs = [.int .i64 0,.int .i64 i] /\ i <= n /\ mm = n - i /\ eachF 4 (fun _ x => if isSpan x then 0 else 1) l = firstF (fun _ x => if isSpan x then 0 else 1) i (l.drop i)) ⟨rfl,0,rfl,Nat.zero_le _,rfl,he⟩ ?_
 rintro Y mm vs _ hY ⟨rfl,i,rfl,hi,rfl,hc⟩
 refine gZ ?_
 refine t_if (fun e => ?_) (fun e => ?_)
 ·obtain ⟨x,a,hx,ha,e1,e2⟩ := hl.at (i := i) (by omega)
  rw [drop_of hx,firstF] at hc
  refine gZ ?_
  refine t_pu (c93 _ _ _ _) ?_
  rw [inside_span]
  refine gZ ?_
  refine t_cond (fun b => ?_) (fun b => ?_)
  ·refine gZ ?_
   have b':isSpan x = false := by simpa using b
   rw [b'] at hc
   exact t_ret ⟨by rw [hc]; rfl,rfl⟩
  ·have b':isSpan x = true := by simpa using b
   rw [b'] at hc
   refine t_again (hY (n - (i + 1)) _ _ (by omega) ⟨rfl,i + 1,?_,by omega,rfl,by simpa using hc⟩)
   rw [wrap_id (by omega) (by omega)]; rfl
 ·refine gZ ?_
  rw [List.drop_eq_nil_of_le (by omega)] at hc
  exact t_ret ⟨by rw [hc]; rfl,rfl⟩
theorem c67 {h:LH} {f:FileC} {u:UseFile} (hu:FileR h.get f u) (hnum:numbersF u = 0):Pu Tryz.prog 74 #[fileV f u] h (.int .i64 (papersF u)) := by
 refine w67 _ _ _ _ _ _ _ _ _ _ _ _ _ X0_ok ?_
 unfold n67
 have hp := hu.papers
 have hn := hp.1
 have hbn := hp.2.1
 have hw:IntKind.wrap .i64 (u.lands - 1) = u.lands - 1 := wrap_id (num_lands hnum).1 (num_lands hnum).2
 refine t_if (fun e => ?_) (fun e => ?_)
 ·exact t_ret ⟨by rw [papersF,eachF,if_pos (by omega)],rfl⟩
 have he:papersF u = firstF (fun _ p => paperF u p) 0 u.papers := by rw [papersF,eachF,if_neg (by omega)]
 refine t_loop (fun mm vs h' => h = h' /\ ∃ i:Nat,vs = [.int .i64 0,.int .i64 i] /\ i <= f.n5 /\ mm = f.n5 - i /\ papersF u = firstF (fun _ p => paperF u p) i (u.papers.drop i)) ⟨rfl,0,rfl,Nat.zero_le _,rfl,he⟩ ?_
 rintro Y mm vs _ hY ⟨rfl,i,rfl,hi,rfl,hc⟩
 refine gZ ?_
 refine t_if (fun e => ?_) (fun e => ?_)
 ·obtain ⟨x,a,hx,ha,e1,e2,e3,q,m,c,e4,e5⟩ := hp.at (i := i) (by omega)
  rw [drop_of hx,firstF] at hc
  refine gZ ?_
  have next:paperF u x = 0 -> Y [.int .i64 0,.int .i64 (IntKind.wrap .i64 ((i:Int) + 1))] h := by
   intro hz
   rw [if_neg (by simp [hz])] at hc
   refine hY (f.n5 - (i + 1)) _ _ (by omega) ⟨rfl,i + 1,?_,by omega,rfl,hc⟩
   rw [wrap_id (by omega) (by omega)]; rfl
  have stop:∀ z:Int,z ≠ 0 -> paperF u x = z -> papersF u = z := by
   intro z hz hr
   rw [if_pos (by rw [hr]; exact hz),hr] at hc; exact hc
  refine t_pu (c93 _ _ _ _) ?_
  rw [inside_span x.days]
  refine gZ ?_
  refine t_cond (fun b => ?_) (fun b => ?_)
  ·refine gZ ?_
   have b':isSpan x.days = false := by simpa using b
   exact t_ret ⟨by rw [stop 1 (by omega) (by rw [paperF,if_pos b'])],rfl⟩
  have b1:¬ isSpan x.days = false := by simp at b; simp [b]
  refine t_pu (c49 _ _ _) ?_
  rw [hw]
  refine gZ ?_
  refine t_cond (fun b => ?_) (fun b => ?_)
  ·refine gZ ?_
   have b':isIn x.land 0 (u.lands - 1) = false := by simpa using b
   exact t_ret ⟨by rw [stop 6 (by omega) (by rw [paperF,if_neg b1,if_pos b'])],rfl⟩
  have b2:¬ isIn x.land 0 (u.lands - 1) = false := by simp at b; simp [b]
  refine t_pu (c72 e5 (num_items hnum)) ?_
  refine gZ ?_
  have hr:paperF u x = risesF x.items u.items := by rw [paperF,if_neg b1,if_neg b2]
  refine t_cond (fun b => ?_) (fun b => ?_)
  ·refine gZ ?_
   exact t_ret ⟨by rw [stop _ (by simpa using b) hr],rfl⟩
  ·exact t_again (next (by rw [hr]; simpa using b))
 ·refine gZ ?_
  rw [List.drop_eq_nil_of_le (by omega)] at hc
  exact t_ret ⟨by rw [hc]; rfl,rfl⟩
def lateB (u:UseFile) (i:Nat) (x:Request):Bool := decide (x.day < u.from_) || (decide (0 < i) && (match u.requests[i - 1]? with | some q => decide (x.day < q.day) | none => false))
theorem requestF_eq (u:UseFile) (i:Nat) (x:Request):requestF u i x = if isDay x.day = false then 1 else if lateB u i x = true then 7 else if isIn x.land 0 (u.lands - 1) = false then 6 else risesF x.items u.items := rfl
theorem lateB_prev {u:UseFile} {i:Nat} {x y:Request} (hy:u.requests[i - 1]? = some y):lateB u i x = (decide (x.day < u.from_) || (decide (0 < i) && decide (x.day < y.day))) := by
 unfold lateB; rw [hy]
theorem c68 {h:LH} {f:FileC} {u:UseFile} (hu:FileR h.get f u) (hnum:numbersF u = 0):Pu Tryz.prog 75 #[fileV f u] h (.int .i64 (requestsF u)) := by
 refine w68 _ _ _ _ _ _ _ _ _ _ _ _ _ X0_ok ?_
 unfold n68
 have hp := hu.requests
 have hn := hp.1
 have hbn := hp.2.1
 have hw:IntKind.wrap .i64 (u.lands - 1) = u.lands - 1 := wrap_id (num_lands hnum).1 (num_lands hnum).2
 refine t_if (fun e => ?_) (fun e => ?_)
 ·exact t_ret ⟨by rw [requestsF,eachF,if_pos (by omega)],rfl⟩
 have he:requestsF u = firstF (requestF u) 0 u.requests := by rw [requestsF,eachF,if_neg (by omega)]
 refine t_loop (fun mm vs h' => h = h' /\ ∃ i:Nat,vs = [.int .i64 0,.int .i64 i] /\ i <= f.n6 /\ mm = f.n6 - i /\ requestsF u = firstF (requestF u) i (u.requests.drop i)) ⟨rfl,0,rfl,Nat.zero_le _,rfl,he⟩ ?_
 rintro Y mm vs _ hY ⟨rfl,i,rfl,hi,rfl,hc⟩
 refine gZ ?_
 refine t_if (fun e => ?_) (fun e => ?_)
 ·obtain ⟨x,a,hx,ha,e1,e2,q,m,c,e4,e5⟩ := hp.at (i := i) (by omega)
  rw [drop_of hx,firstF] at hc
  refine gZ ?_
  have next:requestF u i x = 0 -> Y [.int .i64 0,.int .i64 (IntKind.wrap .i64 ((i:Int) + 1))] h := by
   intro hz
   rw [if_neg (by simp [hz])] at hc
   refine hY (f.n6 - (i + 1)) _ _ (by omega) ⟨rfl,i + 1,?_,by omega,rfl,hc⟩
   rw [wrap_id (by omega) (by omega)]; rfl
  have stop:∀ z:Int,z ≠ 0 -> requestF u i x = z -> requestsF u = z := by
   intro z hz hr
   rw [if_pos (by rw [hr]; exact hz),hr] at hc; exact hc
  refine t_pu (c56 _) ?_
  refine gZ ?_
  refine t_cond (fun b => ?_) (fun b => ?_)
  ·refine gZ ?_
   have b':isDay x.day = false := by simpa using b
   exact t_ret ⟨by rw [stop 1 (by omega) (by rw [requestF_eq,if_pos b'])],rfl⟩
  have b1:¬ isDay x.day = false := by simp at b; simp [b]
  refine t_blk (fun vs h' => vs = [.int .i64 0] /\ h = h' /\ lateB u i x = false) ?_ ?_
  ·refine t_if (fun e3 => ?_) (fun e3 => ?_)
   ·refine gZ ?_
    exact t_ret ⟨by rw [stop 7 (by omega) (by rw [requestF_eq,if_neg b1,if_pos (by simp [lateB,e3])])],rfl⟩
   ·refine t_if (fun e6 => ?_) (fun e6 => ?_)
    ·obtain ⟨y,a2,hy,ha2,f1,f2,_⟩ := hp.at (i := i - 1) (by omega)
     have hwi:IntKind.wrap .i64 ((i:Int) - 1) = ((i - 1:Nat):Int) := by rw [wrap_id (by omega) (by omega)]; omega
     rw [hwi]
     refine gZ ?_
     refine t_if (fun e7 => ?_) (fun e7 => ?_)
     ·refine gZ ?_
      exact t_ret ⟨by rw [stop 7 (by omega) (by rw [requestF_eq,if_neg b1,if_pos (by rw [lateB_prev hy]; simp [e7]; omega)])],rfl⟩
     ·refine t_again ⟨rfl,rfl,?_⟩
      rw [lateB_prev hy]; simp; omega
    ·have e3':decide (x.day < u.from_) = false := by simpa using e3
     have e3'':AV.val (.bool (decide (x.day < u.from_))) = AV.val (.bool false) := by rw [e3']
     refine gZ ?_
     refine t_again ⟨rfl,rfl,?_⟩
     have hi0:i = 0 := by omega
     subst hi0
     unfold lateB; rw [e3']; rfl
  rintro vs _ ⟨rfl,rfl,hq⟩
  refine gZ ?_
  refine t_pu (c49 _ _ _) ?_
  rw [hw]
  refine gZ ?_
  refine t_cond (fun b => ?_) (fun b => ?_)
  ·refine gZ ?_
   have b':isIn x.land 0 (u.lands - 1) = false := by simpa using b
   exact t_ret ⟨by rw [stop 6 (by omega) (by rw [requestF_eq,if_neg b1,hq,if_neg (by simp),if_pos b'])],rfl⟩
  have b2:¬ isIn x.land 0 (u.lands - 1) = false := by simp at b; simp [b]
  refine t_pu (c72 e5 (num_items hnum)) ?_
  refine gZ ?_
  have hr:requestF u i x = risesF x.items u.items := by rw [requestF_eq,if_neg b1,hq,if_neg (by simp),if_neg b2]
  refine t_cond (fun b => ?_) (fun b => ?_)
  ·refine gZ ?_
   exact t_ret ⟨by rw [stop _ (by simpa using b) hr],rfl⟩
  ·exact t_again (next (by rw [hr]; simpa using b))
 ·refine gZ ?_
  rw [List.drop_eq_nil_of_le (by omega)] at hc
  exact t_ret ⟨by rw [hc]; rfl,rfl⟩
theorem c27 {h:LH} {f:FileC} {u:UseFile} (hu:FileR h.get f u):Pu Tryz.prog 27 #[fileV f u] h (.int .i64 (checkF u)) := by
 refine w27 _ _ _ _ _ _ _ _ _ _ _ _ _ X0_ok ?_
 unfold n27
 have bad:numbersF u ≠ 0 -> checkF u = 1 := by
  intro hz
  have:numbersF u = 1 := by unfold numbersF at hz ⊢; split at hz <;> simp_all
  unfold checkF firstF
  rw [if_pos hz,this]
 refine t_blk (fun vs h' => vs = [.int .i64 0] /\ h = h' /\ numbersF u = 0) ?_ ?_
 ·refine t_pu (c49 _ _ _) ?_
  refine gZ ?_
  refine t_cond (fun b1 => ?_) (fun b1 => ?_)
  ·refine gZ ?_
   exact t_ret ⟨by rw [bad (by simp at b1; simp [numbersF,b1])],rfl⟩
  refine t_pu (c49 _ _ _) ?_
  refine gZ ?_
  refine t_cond (fun b2 => ?_) (fun b2 => ?_)
  ·refine gZ ?_
   exact t_ret ⟨by rw [bad (by simp at b2; simp [numbersF,b2])],rfl⟩
  refine t_pu (c56 _) ?_
  refine gZ ?_
  refine t_cond (fun b3 => ?_) (fun b3 => ?_)
  ·refine gZ ?_
   exact t_ret ⟨by rw [bad (by simp at b3; simp [numbersF,b3])],rfl⟩
  refine t_pu (c49 _ _ _) ?_
  refine gZ ?_
  refine t_cond (fun b4 => ?_) (fun b4 => ?_)
  ·refine gZ ?_
   exact t_ret ⟨by rw [bad (by simp at b4; simp [numbersF,b4])],rfl⟩
  exact t_again ⟨rfl,rfl,by simp at b1 b2 b3 b4; simp [numbersF,b1,b2,b3,b4]⟩
 rintro vs _ ⟨rfl,rfl,hnum⟩
 refine gZ ?_
 refine t_pu (c66 hu.excuses) ?_
 refine gZ ?_
 have h0:checkF u = firstF (fun _ x => x) 1 [excusesF u,papersF u,requestsF u] := by
  unfold checkF; rw [firstF,if_neg (by simp [hnum])]
 rw [firstF] at h0
 refine t_cond (fun b => ?_) (fun b => ?_)
 ·rw [if_pos (show excusesF u ≠ 0 by simpa [excusesF] using b)] at h0
  exact t_ret ⟨by rw [h0]; rfl,rfl⟩
 rw [if_neg (show ¬ excusesF u ≠ 0 by simpa [excusesF] using b),firstF] at h0
 refine t_pu (c67 hu hnum) ?_
 refine gZ ?_
 refine t_cond (fun b => ?_) (fun b => ?_)
 ·rw [if_pos (by simpa using b)] at h0
  exact t_ret ⟨by rw [h0],rfl⟩
 rw [if_neg (by simpa using b),firstF] at h0
 refine t_pu (c68 hu hnum) ?_
 refine gZ ?_
 refine t_ret ⟨?_,rfl⟩
 rw [h0]
 by_cases e:requestsF u = 0
 ·rw [if_neg (by simp [e]),e]; rfl
 ·rw [if_pos e]
end Go.Proofs.YtgljffachdhigaaGreatDoor
end
section
namespace Go.Proofs.YtgljffachdhigaaGreatDoor
open Go Go.TM Go.Proofs
set_option linter.unusedVariables false
set_option maxRecDepth 100000
variable {X:XP} {h:LH} {A:Value -> LH -> Prop}
noncomputable def n3140 (s:ByteArray):T := .blk (.sem false (Builtin.len_ #[9] 3 #[.string s]) fun v => .unI .i64 v fun n => bif n == 0 then .leaf (.retn [.bool false]) else .sem false (Builtin.len_ #[9] 3 #[.string s]) fun v => .unI .i64 v fun n => bif decide (n > 10) then .leaf (.retn [.bool false]) else .leaf (.again [.bool false])) (fun vs => .popB vs fun b vs => .unNil vs (.loop [.bool b,.int .i64 0] (fun vs => .popB vs fun b vs => .popI .i64 vs fun n vs => .unNil vs (.sem false (Builtin.len_ #[9] 3 #[.string s]) fun v => .unI .i64 v fun n_1 => bif decide (n < n_1) then .blk (.both (.sem false (Instr.index 9 (.string s) (.int .i64 n)) fun v => .unI .u8 v fun n_2 => .nd (.int .i64 n) (.nd (.string s) (.both (.call false 55 #[.int .i64 (IntKind.wrap .i64 n_2),.int .i64 97,.int .i64 122] fun v => .unB v fun b => .nd (.int .i64 n) (.nd (.string s) (.sem false (Instr.index 9 (.string s) (.int .i64 n)) fun v => .unI .u8 v fun n => .call false 55 #[.int .i64 (IntKind.wrap .i64 n),.int .i64 48,.int .i64 57] fun v => .unB v fun b_1 => .leaf (.again [.bool b,.bool b_1])))) (.sem false (Instr.index 9 (.string s) (.int .i64 n)) fun v => .unI .u8 v fun n => .nd (.int .i64 (IntKind.wrap .i64 n_2)) (.call false 55 #[.int .i64 (IntKind.wrap .i64 n_2),.int .i64 97,.int .i64 122] fun v => .unB v fun b => .nd (.int .i64 (IntKind.wrap .i64 n)) (.call false 55 #[.int .i64 (IntKind.wrap .i64 n),.int .i64 48,.int .i64 57] fun v => .unB v fun b_1 => .leaf (.again [.bool b,.bool b_1]))))))) (.sem false (Instr.index 9 (.string s) (.int .i64 n)) fun v => .unI .u8 v fun n_2 => .nd (.int .i64 n) (.nd (.string s) (.sem false (Instr.index 9 (.string s) (.int .i64 n)) fun v => .unI .u8 v fun n => .nd (.int .i64 (IntKind.wrap .i64 n_2)) (.call false 55 #[.int .i64 (IntKind.wrap .i64 n),.int .i64 97,.int .i64 122] fun v => .unB v fun b => .nd (.int .i64 (IntKind.wrap .i64 n_2)) (.call false 55 #[.int .i64 (IntKind.wrap .i64 n_2),.int .i64 48,.int .i64 57] fun v => .unB v fun b_1 => .leaf (.again [.bool b,.bool b_1]))))))) (fun vs => .popB vs fun b_1 vs => .popB vs fun b_2 vs => .unNil vs (bif !b_1 then bif !b_2 then .leaf (.retn [.bool false,.int .i64 n]) else bif n == 0 then .leaf (.retn [.bool false,.int .i64 n]) else .leaf (.again [.bool b,.int .i64 (IntKind.wrap .i64 (n + 1))]) else .leaf (.again [.bool b,.int .i64 (IntKind.wrap .i64 (n + 1))]))) (fun vs => .popB vs fun b_1 vs => .popB vs fun b_2 vs => .unNil vs (.leaf (.retn [.bool b,.int .i64 n]))) fun x x_1 => .fail else .leaf (.brk [.bool b,.int .i64 n]))) (fun vs => .popB vs fun b vs => .popI .i64 vs fun n vs => .unNil vs (.leaf (.ret (.bool true)))) (fun vs => .popB vs fun b vs => .popI .i64 vs fun n vs => .unNil vs (.leaf (.ret (.bool b)))) fun x x_1 => .fail)) (fun vs => .popB vs fun b vs => .unNil vs (.leaf (.ret (.bool b)))) fun x x_1 => .fail
theorem w3140 (s:ByteArray) (hX:XOK X) (hw:(n3140 s).wp X Tryz.prog (retQ A) h):FWK X Tryz.prog .normal 28 #[.string s] h A := fwk_neat (priv := []) (loops := [{ id := 0,slots := [(2,.bool),(3,.int .i64)],ro := [],outs := [] }]) (joins := [{ id := 7,slots := [(4,.bool),(5,.bool)],ro := [],outs := [] },{ id := 3,slots := [(2,.bool)],ro := [],outs := [] }]) (fd := Tryz.f28) (by kernel_rfl) (by simp) (by kernel_rfl) (by kernel_rfl) hX hw
noncomputable def n3239 (sp:Option Addr) (sn sc:Nat) (f:Value):T := .call false 209 #[.slice sp sn sc,f] fun v => .unI .i64 v fun n => .leaf (.ret (.bool (decide (n >= 0))))
theorem w3239 (sp:Option Addr) (sn sc:Nat) (f:Value) (hX:XOK X) (hw:(n3239 sp sn sc f).wp X Tryz.prog (retQ A) h):FWK X Tryz.prog .normal 207 #[.slice sp sn sc,f] h A := fwk_neat (priv := []) (loops := []) (joins := []) (fd := Tryz.f207) (by kernel_rfl) (by simp) (by kernel_rfl) (by kernel_rfl) hX hw
noncomputable def n3247 (sp:Option Addr) (sn sc:Nat) (f:Value):T := .loop [.int .i64 0,.int .i64 0] (fun vs => .popI .i64 vs fun n vs => .popI .i64 vs fun n_1 vs => .unNil vs (bif decide (n_1 < (↑sn:Int)) then .need (0 <= n_1 /\ n_1 < (↑sn:Int)) (.someA sp fun a => .loadI .u8 (a.add (n_1.toNat * 1)) fun n_2 => .callv false f #[.int .u8 n_2] fun v => .unB v fun b => bif b then .leaf (.retn [.int .i64 n_1,.int .i64 n_1]) else .leaf (.again [.int .i64 n,.int .i64 (IntKind.wrap .i64 (n_1 + 1))])) else .leaf (.brk [.int .i64 n,.int .i64 n_1]))) (fun vs => .popI .i64 vs fun n vs => .popI .i64 vs fun n vs => .unNil vs (.leaf (.ret (.int .i64 (-1))))) (fun vs => .popI .i64 vs fun n vs => .popI .i64 vs fun n_1 vs => .unNil vs (.leaf (.ret (.int .i64 n)))) fun x x_1 => .fail
theorem w3247 (sp:Option Addr) (sn sc:Nat) (f:Value) (hX:XOK X) (hw:(n3247 sp sn sc f).wp X Tryz.prog (retQ A) h):FWK X Tryz.prog .normal 209 #[.slice sp sn sc,f] h A := fwk_neat (priv := []) (loops := [{ id := 0,slots := [(4,.int .i64),(8,.int .i64)],ro := [],outs := [] }]) (joins := []) (fd := Tryz.f209) (by kernel_rfl) (by simp) (by kernel_rfl) (by kernel_rfl) hX hw
end Go.Proofs.YtgljffachdhigaaGreatDoor
end
section
namespace Go.Proofs.YtgljffachdhigaaGreatDoor
open Go Go.TM Go.Proofs
attribute [local irreducible] T.wp CV FWK
theorem und9:Tryz.prog.underlying 9 = some .string := by kernel_rfl
theorem und1275:Tryz.prog.underlying 285 = some (.slice 5) := by kernel_rfl
theorem undU8:Tryz.prog.underlying 5 = some (.int .u8) := by kernel_rfl
/-! ### Names -/
theorem letter_in (c:UInt8):isIn (c.toNat:Int) 97 122 = letterB c := by
 unfold isIn letterB
 congr 1 <;> rw [decide_eq_decide] <;> omega
theorem digit_in (c:UInt8):isIn (c.toNat:Int) 48 57 = digitB c := by
 unfold isIn digitB
 congr 1 <;> rw [decide_eq_decide] <;> omega
theorem byte_lt (c:UInt8):c.toNat < 256 := c.toNat_lt
theorem c3247 {h:LH} {p:Option Addr} {n c:Nat} {l:List UInt8} {fv:Value} {g:UInt8 -> Bool} (hl:Sl ByteE 1 h.get p n l) (hf:∀ x:UInt8,CV X0 Tryz.prog fv #[.int .u8 (x.toNat:Int)] h fun r h' => r = .bool (g x) /\ h' = h) :
  Pu Tryz.prog 209 #[.slice p n c,fv] h (.int .i64 (placeF g 0 l)) := by
 refine w3247 _ _ _ _ X0_ok ?_
 unfold n3247
 have hn := hl.1
 have hb := hl.2.1
 refine t_loop (fun m vs h' => h' = h /\ ∃ i:Nat,vs = [.int .i64 0,.int .i64 i] /\ i <= n /\ m = n - i /\ placeF g 0 l = placeF g i (l.drop i)) ⟨rfl,0,rfl,Nat.zero_le _,rfl,rfl⟩ ?_
 rintro Y m vs _ hY ⟨rfl,i,rfl,hi,rfl,hc⟩
 refine gZ ?_
 refine t_if (fun e1 => ?_) (fun e1 => ?_)
 ·obtain ⟨x,a,hx,ha,e2⟩ := hl.at (i := i) (by omega)
  unfold ByteE at e2
  refine gZ ?_
  refine t_callv (hf x) ?_
  rintro _ _ ⟨rfl,rfl⟩
  refine gZ ?_
  rw [drop_of hx,placeF] at hc
  refine t_cond (fun e3 => ?_) (fun e3 => ?_)
  ·refine gZ ?_
   refine t_ret ⟨?_,rfl⟩
   rw [hc,if_pos e3]
  ·refine t_again (hY (n - (i + 1)) _ _ (by omega) ⟨rfl,i + 1,?_,by omega,rfl,?_⟩)
   ·rw [wrap_id (by omega) (by omega)]; rfl
   ·rw [hc,if_neg (by simp [e3])]
 ·refine gZ ?_
  refine t_ret ⟨?_,rfl⟩
  rw [hc,List.drop_eq_nil_of_le (by omega)]; rfl
theorem c3239 {h:LH} {p:Option Addr} {n c:Nat} {l:List UInt8} {fv:Value} {g:UInt8 -> Bool} (hl:Sl ByteE 1 h.get p n l) (hf:∀ x:UInt8,CV X0 Tryz.prog fv #[.int .u8 (x.toNat:Int)] h fun r h' => r = .bool (g x) /\ h' = h) :
  Pu Tryz.prog 207 #[.slice p n c,fv] h (.bool (l.any g)) := by
 refine w3239 _ _ _ _ X0_ok ?_
 unfold n3239
 refine t_pu (c3247 hl hf) ?_
 refine gZ ?_
 refine t_ret ⟨?_,rfl⟩
 rw [placeF_ge]
theorem c3140 {h:LH} (s:ByteArray):FW X0 Tryz.prog 28 #[.string s] h fun r h' => h = h' /\ ∃ b,r = .bool b /\ (b = true -> NameOk s) := by
 refine w3140 _ X0_ok ?_
 unfold n3140
 refine t_blk (fun vs h' => vs = [.bool false] /\ h = h' /\ 1 <= s.size /\ s.size <= 10) ?_ ?_
 ·refine t_lenStr und9 ?_
  refine gZ ?_
  refine t_cond (fun _ => ?_) (fun e1 => ?_)
  ·refine gI ?_
   refine gZ ?_
   exact t_ret ⟨rfl,false,rfl,fun e => by cases e⟩
  refine t_lenStr und9 ?_
  refine gZ ?_
  refine t_if (fun _ => ?_) (fun e2 => ?_)
  ·refine gI ?_
   refine gZ ?_
   exact t_ret ⟨rfl,false,rfl,fun e => by cases e⟩
  ·refine t_again ⟨rfl,rfl,?_,by omega⟩
   have:¬ s.size = 0 := by simpa using e1
   omega
 rintro vs _ ⟨rfl,rfl,hs1,hs2⟩
 refine gZ ?_
 refine t_loop (fun mm vs h' => h = h' /\ ∃ i:Nat,vs = [.bool false,.int .i64 i] /\ i <= s.size /\ mm = s.size - i /\ ∀ (j:Nat) c,j < i -> s.data[j]? = some c -> letterB c = true \/ (digitB c = true /\ j ≠ 0)) ⟨rfl,0,rfl,Nat.zero_le _,rfl,fun j c hj => absurd hj (Nat.not_lt_zero _)⟩ ?_
 rintro Y mm vs _ hY ⟨rfl,i,rfl,hi,rfl,hall⟩
 refine gZ ?_
 refine t_lenStr und9 ?_
 refine gZ ?_
 refine t_if (fun e1 => ?_) (fun e1 => ?_)
 ·have hlt:i < s.data.size := by show i < s.size; omega
  have hc := Array.getElem?_eq_getElem (xs := s.data) (i := i) hlt
  generalize s.data[i] = c at hc
  have hw:IntKind.wrap .i64 (c.toNat:Int) = (c.toNat:Int) := wrap_id (by omega) (by have := byte_lt c; omega)
  have i1 := letter_in c
  have i2 := digit_in c
  have next:(letterB c = true \/ (digitB c = true /\ i ≠ 0)) -> Y [.bool false,.int .i64 (IntKind.wrap .i64 ((i:Int) + 1))] h := fun hok => by
   refine hY (s.size - (i + 1)) _ _ (by omega) ⟨rfl,i + 1,?_,by omega,rfl,fun j c' hj hc' => ?_⟩
   ·rw [wrap_id (by omega) (by omega)]; rfl
   ·by_cases e:j = i
    ·subst e; rw [hc] at hc'; cases hc'; exact hok
    ·exact hall j c' (by omega) hc'
  refine t_blk (fun vs h' => vs = [.bool (letterB c),.bool (digitB c)] /\ h = h') ?_ ?_
  ·refine t_both ?_ ?_
   ·refine t_indexS und9 hc ?_
    refine gZ ?_
    refine t_both ?_ ?_
    ·rw [hw]
     refine t_pu (c49 _ _ _) ?_
     rw [i1]
     refine gZ ?_
     refine t_indexS und9 hc ?_
     refine gZ ?_
     rw [hw]
     refine t_pu (c49 _ _ _) ?_
     rw [i2]
     refine gZ ?_
     exact t_again ⟨rfl,rfl⟩
    ·refine t_indexS und9 hc ?_
     refine gZ ?_
     rw [hw]
     refine t_pu (c49 _ _ _) ?_
     rw [i1]
     refine gZ ?_
     refine t_pu (c49 _ _ _) ?_
     rw [i2]
     refine gZ ?_
     exact t_again ⟨rfl,rfl⟩
   ·refine t_indexS und9 hc ?_
    refine gZ ?_
    refine t_indexS und9 hc ?_
    refine gZ ?_
    rw [hw]
    refine t_pu (c49 _ _ _) ?_
    rw [i1]
    refine gZ ?_
    refine t_pu (c49 _ _ _) ?_
    rw [i2]
    refine gZ ?_
    exact t_again ⟨rfl,rfl⟩
  rintro vs _ ⟨rfl,rfl⟩
  refine gZ ?_
  refine t_cond (fun b1 => ?_) (fun b1 => ?_)
  ·refine t_cond (fun _ => ?_) (fun b2 => ?_)
   ·refine gI ?_
    refine gZ ?_
    exact t_ret ⟨rfl,false,rfl,fun e => by cases e⟩
   refine t_cond (fun _ => ?_) (fun b3 => ?_)
   ·refine gI ?_
    refine gZ ?_
    exact t_ret ⟨rfl,false,rfl,fun e => by cases e⟩
   ·refine t_again (next (.inr ⟨by simpa using b2,?_⟩))
    intro e0
    subst e0
    simp at b3
  ·exact t_again (next (.inl (by simpa using b1)))
 ·refine gZ ?_
  refine t_ret ⟨rfl,true,rfl,fun _ => ⟨⟨hs1,hs2⟩,fun j c hc => hall j c ?_ hc⟩⟩
  have:j < s.data.size := (Array.getElem?_eq_some_iff.1 hc).1
  have h2:s.data.size = s.size := rfl
  omega
end Go.Proofs.YtgljffachdhigaaGreatDoor
end
section
namespace Go.Proofs.YtgljffachdhigaaGreatDoor
open Go Go.TM Go.Proofs
set_option linter.unusedVariables false
set_option maxRecDepth 100000
variable {X:XP} {h:LH} {A:Value -> LH -> Prop}
noncomputable def n3134 (sp:Option Addr) (sn sc:Nat) (f:Value):T := .loop [.int .i64 0,.int .i64 0] (fun vs => .popI .i64 vs fun n vs => .popI .i64 vs fun n_1 vs => .unNil vs (bif decide (n_1 < (↑sn:Int)) then .need (0 <= n_1 /\ n_1 < (↑sn:Int)) (.someA sp fun a => .loadI .i64 (a.add (n_1.toNat * 1)) fun n_2 => .callv false f #[.int .i64 n_2] fun v => .unB v fun b => bif b then .leaf (.retn [.int .i64 n_1,.int .i64 n_1]) else .leaf (.again [.int .i64 n,.int .i64 (IntKind.wrap .i64 (n_1 + 1))])) else .leaf (.brk [.int .i64 n,.int .i64 n_1]))) (fun vs => .popI .i64 vs fun n vs => .popI .i64 vs fun n vs => .unNil vs (.leaf (.ret (.int .i64 (-1))))) (fun vs => .popI .i64 vs fun n vs => .popI .i64 vs fun n_1 vs => .unNil vs (.leaf (.ret (.int .i64 n)))) fun x x_1 => .fail
theorem w3134 (sp:Option Addr) (sn sc:Nat) (f:Value) (hX:XOK X) (hw:(n3134 sp sn sc f).wp X Tryz.prog (retQ A) h):FWK X Tryz.prog .normal 159 #[.slice sp sn sc,f] h A := fwk_neat (priv := []) (loops := [{ id := 0,slots := [(4,.int .i64),(8,.int .i64)],ro := [],outs := [] }]) (joins := []) (fd := Tryz.f159) (by kernel_rfl) (by simp) (by kernel_rfl) (by kernel_rfl) hX hw
noncomputable def n3137 (sp:Option Addr) (sn sc:Nat):T := .sem false (Sem.bind (eqGuard BinOp.eql 30 (Operand.tmp 3) (Operand.const (.slice none 0 0)) (.slice sp sn sc) (.slice none 0 0)) fun __r => binOp BinOp.eql 30 (.slice sp sn sc) (.slice none 0 0)) fun v => .unB v fun b => bif b then .leaf (.ret (.slice none 0 0)) else .sem false (Instr.buildSlice 30 0 #[]) fun v => .unS v fun a n c => .sem false (Builtin.append_ #[30,30] 30 #[.slice a n c,.slice sp sn sc]) fun v => .unS v fun a n c => .leaf (.ret (.slice a n c))
theorem w3137 (sp:Option Addr) (sn sc:Nat) (hX:XOK X) (hw:(n3137 sp sn sc).wp X Tryz.prog (retQ A) h):FWK X Tryz.prog .normal 128 #[.slice sp sn sc] h A := fwk_neat (priv := []) (loops := []) (joins := []) (fd := Tryz.f128) (by kernel_rfl) (by simp) (by kernel_rfl) (by kernel_rfl) hX hw
end Go.Proofs.YtgljffachdhigaaGreatDoor
end
section
namespace Go.Proofs.YtgljffachdhigaaGreatDoor
open Go Go.TM Go.Proofs
set_option linter.unusedVariables false
set_option maxRecDepth 100000
variable {X:XP} {h:LH} {A:Value -> LH -> Prop}
noncomputable def n3150 (lp:Option Addr) (ln lc:Nat):T := .loop [.int .i64 0,.int .i64 0] (fun vs => .popI .i64 vs fun n vs => .popI .i64 vs fun n_1 vs => .unNil vs (bif decide (n_1 < (↑ln:Int)) then .need (0 <= n_1 /\ n_1 < (↑ln:Int)) (.someA lp fun a => .loadI .i64 (a.add (n_1.toNat * 1)) fun n_2 => .need (0 <= n_2) (.leaf (.again [.int .i64 (IntKind.wrap .i64 (↑(BitVec.toNat (BitVec.ofInt 64 n ||| BitVec.ofInt 64 (IntKind.wrap .i64 (1 * 2 ^ min (n_2.toNat) 64)))):Int)),.int .i64 (IntKind.wrap .i64 (n_1 + 1))]))) else .leaf (.brk [.int .i64 n,.int .i64 n_1]))) (fun vs => .popI .i64 vs fun n vs => .popI .i64 vs fun n_1 vs => .unNil vs (.leaf (.ret (.int .i64 n)))) (fun vs => .popI .i64 vs fun n vs => .popI .i64 vs fun n vs => .unNil vs (.leaf (.ret (.int .i64 0)))) fun x x_1 => .fail
theorem w3150 (lp:Option Addr) (ln lc:Nat) (hX:XOK X) (hw:(n3150 lp ln lc).wp X Tryz.prog (retQ A) h):FWK X Tryz.prog .normal 50 #[.slice lp ln lc] h A := fwk_neat (priv := []) (loops := [{ id := 0,slots := [(3,.int .i64),(8,.int .i64)],ro := [],outs := [] }]) (joins := []) (fd := Tryz.f50) (by kernel_rfl) (by simp) (by kernel_rfl) (by kernel_rfl) hX hw
noncomputable def n3151 (b_0p:Option Addr) (b_0n b_0c:Nat) (b_1p:Option Addr) (b_1n b_1c:Nat):T := .loadV (Addr.add { block := 0,off := 0 } 0) fun v => .loadV (Addr.add { block := 0,off := 0 } 1) fun v_1 => .loadV (Addr.add { block := 0,off := 0 } 2) fun v_2 => .loop [.int .i64 0,.int .i64 0] (fun vs => .popI .i64 vs fun n vs => .popI .i64 vs fun n_1 vs => .unNil vs (bif decide (n_1 < 3) then .sem false (Instr.index 160 (.agg #[v,v_1,v_2]) (.int .i64 n_1)) fun v => .callv false v #[.agg #[.slice b_0p b_0n b_0c,.slice b_1p b_1n b_1c]] fun v => .unI .i64 v fun n_2 => bif n_2 != 0 then .leaf (.retn [.int .i64 n_2,.int .i64 n_1]) else .leaf (.again [.int .i64 n,.int .i64 (IntKind.wrap .i64 (n_1 + 1))]) else .leaf (.brk [.int .i64 n,.int .i64 n_1]))) (fun vs => .popI .i64 vs fun n vs => .popI .i64 vs fun n vs => .unNil vs (.leaf (.ret (.int .i64 0)))) (fun vs => .popI .i64 vs fun n vs => .popI .i64 vs fun n_1 vs => .unNil vs (.leaf (.ret (.int .i64 n)))) fun x x_1 => .fail
theorem w3151 (b_0p:Option Addr) (b_0n b_0c:Nat) (b_1p:Option Addr) (b_1n b_1c:Nat) (hX:XOK X) (hw:(n3151 b_0p b_0n b_0c b_1p b_1n b_1c).wp X Tryz.prog (retQ A) h):FWK X Tryz.prog .normal 51 #[.agg #[.slice b_0p b_0n b_0c,.slice b_1p b_1n b_1c]] h A := fwk_neat (priv := [1]) (loops := [{ id := 0,slots := [(2,.int .i64),(7,.int .i64)],ro := [1],outs := [] }]) (joins := []) (fd := Tryz.f51) (by kernel_rfl) (by simp) (by kernel_rfl) (by kernel_rfl) hX hw
noncomputable def n3153 (lp:Option Addr) (ln lc:Nat) (below:Int):T := .loop [.int .i64 0,.int .i64 0] (fun vs => .popI .i64 vs fun n vs => .popI .i64 vs fun n_1 vs => .unNil vs (bif decide (n_1 < (↑ln:Int)) then .need (0 <= n_1 /\ n_1 < (↑ln:Int)) (.someA lp fun a => .loadI .i64 (a.add (n_1.toNat * 1)) fun n_2 => .call false 67 #[.int .i64 n_2,.int .i64 0,.int .i64 (IntKind.wrap .i64 (below - 1))] fun v => .unB v fun b => bif !b then .leaf (.retn [.int .i64 6,.int .i64 n_1]) else bif decide (n_1 > 0) then .need (0 <= IntKind.wrap .i64 (n_1 - 1) /\ IntKind.wrap .i64 (n_1 - 1) < (↑ln:Int)) (.someA lp fun a => .loadI .i64 (a.add ((IntKind.wrap .i64 (n_1 - 1)).toNat * 1)) fun n_3 => bif decide (n_2 <= n_3) then .leaf (.retn [.int .i64 7,.int .i64 n_1]) else .leaf (.again [.int .i64 n,.int .i64 (IntKind.wrap .i64 (n_1 + 1))])) else .leaf (.again [.int .i64 n,.int .i64 (IntKind.wrap .i64 (n_1 + 1))])) else .leaf (.brk [.int .i64 n,.int .i64 n_1]))) (fun vs => .popI .i64 vs fun n vs => .popI .i64 vs fun n vs => .unNil vs (.leaf (.ret (.int .i64 0)))) (fun vs => .popI .i64 vs fun n vs => .popI .i64 vs fun n_1 vs => .unNil vs (.leaf (.ret (.int .i64 n)))) fun x x_1 => .fail
theorem w3153 (lp:Option Addr) (ln lc:Nat) (below:Int) (hX:XOK X) (hw:(n3153 lp ln lc below).wp X Tryz.prog (retQ A) h):FWK X Tryz.prog .normal 53 #[.slice lp ln lc,.int .i64 below] h A := fwk_neat (priv := []) (loops := [{ id := 0,slots := [(4,.int .i64),(9,.int .i64)],ro := [],outs := [] }]) (joins := []) (fd := Tryz.f53) (by kernel_rfl) (by simp) (by kernel_rfl) (by kernel_rfl) hX hw
noncomputable def n3156 (b_0p:Option Addr) (b_0n b_0c:Nat) (b_1p:Option Addr) (b_1n b_1c:Nat):T := .new 128 #[.bool false,.bool false,.bool false,.bool false,.bool false,.bool false] fun r => .loop [.int .i64 0] (fun vs => .popI .i64 vs fun n vs => .unNil vs (bif decide (n < (↑b_0n:Int)) then .need (0 <= n /\ n < (↑6:Int)) (.store ((Addr.add { block := r,off := 0 } (n.toNat * 1)).add 0) (.bool true) (.leaf (.again [.int .i64 (IntKind.wrap .i64 (n + 1))]))) else .leaf (.brk [.int .i64 n]))) (fun vs => .popI .i64 vs fun n vs => .unNil vs (.loadB (Addr.add { block := r,off := 0 } 0) fun b => .loadB (Addr.add { block := r,off := 0 } 1) fun b_1 => .loadB (Addr.add { block := r,off := 0 } 2) fun b_2 => .loadB (Addr.add { block := r,off := 0 } 3) fun b_3 => .loadB (Addr.add { block := r,off := 0 } 4) fun b_4 => .loadB (Addr.add { block := r,off := 0 } 5) fun b_5 => .leaf (.ret (.agg #[.bool b,.bool b_1,.bool b_2,.bool b_3,.bool b_4,.bool b_5])))) (fun vs => .popI .i64 vs fun n vs => .unNil vs (.leaf (.ret (.agg #[.bool false,.bool false,.bool false,.bool false,.bool false,.bool false])))) fun x x_1 => .fail
theorem w3156 (b_0p:Option Addr) (b_0n b_0c:Nat) (b_1p:Option Addr) (b_1n b_1c:Nat) (hX:XOK X) (hw:(n3156 b_0p b_0n b_0c b_1p b_1n b_1c).wp X Tryz.prog (retQ A) h):FWK X Tryz.prog .normal 66 #[.agg #[.slice b_0p b_0n b_0c,.slice b_1p b_1n b_1c]] h A := fwk_neat (priv := [1,2]) (loops := [{ id := 0,slots := [(9,.int .i64)],ro := [1,2],outs := [] }]) (joins := []) (fd := Tryz.f66) (by kernel_rfl) (by simp) (by kernel_rfl) (by kernel_rfl) hX hw
noncomputable def n3157 (n low high:Int):T := bif decide (low <= n) then .leaf (.ret (.bool (decide (n <= high)))) else .leaf (.ret (.bool false))
theorem w3157 (n low high:Int) (hX:XOK X) (hw:(n3157 n low high).wp X Tryz.prog (retQ A) h):FWK X Tryz.prog .normal 67 #[.int .i64 n,.int .i64 low,.int .i64 high] h A := fwk_neat (priv := []) (loops := []) (joins := []) (fd := Tryz.f67) (by kernel_rfl) (by simp) (by kernel_rfl) (by kernel_rfl) hX hw
noncomputable def n3158 (b_0p:Option Addr) (b_0n b_0c:Nat) (b_1p:Option Addr) (b_1n b_1c:Nat) (x_0p:Option Addr) (x_0n x_0c:Nat) (x_1 x_2 x_3 x_4 x_5 x_6:Bool) (x_7 i:Int):T := .new 131 #[.slice x_0p x_0n x_0c,.bool x_1,.bool x_2,.bool x_3,.bool x_4,.bool x_5,.bool x_6,.int .i64 x_7] fun r => .loadS (Addr.add { block := r,off := 0 } 0) fun p n c => .loadS (Addr.add { block := r,off := 0 } 0) fun p_1 n_1 c_1 => .loadS (Addr.add { block := r,off := 0 } 0) fun p_2 n_2 c_2 => .sem false (Instr.sliceAt 30 (.slice p n c) none (some (.int .i64 (↑n_1:Int))) (some (.int .i64 (↑n_2:Int)))) fun w => .unS w fun a n c => .sem false (Instr.buildSlice 30 1 #[(0,.int .i64 i)]) fun v => .unS v fun a_1 n_3 c_3 => .sem false (Builtin.append_ #[30,30] 30 #[.slice a n c,.slice a_1 n_3 c_3]) fun v => .unS v fun a n c => .store ((Addr.add { block := r,off := 0 } 0).add 0) (.slice a n c) (.need (0 <= i /\ i < (↑b_1n:Int)) (.someA b_1p fun a => .loadStr ((a.add (i.toNat * 4)).add 0) fun s => .loadI .i64 ((a.add (i.toNat * 4)).add 1) fun n => .loadS ((a.add (i.toNat * 4)).add 2) fun p n_4 c => .loadS ((a.add (i.toNat * 4)).add 3) fun p_3 n_5 c_4 => .loadB ((Addr.add { block := r,off := 0 } 1).add 0) fun b => .loadB ((Addr.add { block := r,off := 0 } 1).add 1) fun b_1 => .loadB ((Addr.add { block := r,off := 0 } 1).add 2) fun b_2 => .loadB ((Addr.add { block := r,off := 0 } 1).add 3) fun b_3 => .loadB ((Addr.add { block := r,off := 0 } 1).add 4) fun b_4 => .loadB ((Addr.add { block := r,off := 0 } 1).add 5) fun b_5 => .call false 109 #[.agg #[.slice b_0p b_0n b_0c,.slice b_1p b_1n b_1c],.agg #[.string s,.int .i64 n,.slice p n_4 c,.slice p_3 n_5 c_4],.agg #[.bool b,.bool b_1,.bool b_2,.bool b_3,.bool b_4,.bool b_5]] fun v => .unB v fun b => bif b then .loadI .i64 (Addr.add { block := r,off := 0 } 7) fun n_6 => .need (0 <= i) (.store ((Addr.add { block := r,off := 0 } 7).add 0) (.int .i64 (IntKind.wrap .i64 (↑(BitVec.toNat (BitVec.ofInt 64 n_6 ||| BitVec.ofInt 64 (IntKind.wrap .i64 (1 * 2 ^ min (i.toNat) 64)))):Int))) (.need (0 <= n /\ n < (↑6:Int)) (.store (((Addr.add { block := r,off := 0 } 1).add (n.toNat * 1)).add 0) (.bool false) (.loadS (Addr.add { block := r,off := 0 } 0) fun p n c => .loadB (Addr.add { block := r,off := 0 } 1) fun b => .loadB (Addr.add { block := r,off := 0 } 2) fun b_6 => .loadB (Addr.add { block := r,off := 0 } 3) fun b_7 => .loadB (Addr.add { block := r,off := 0 } 4) fun b_8 => .loadB (Addr.add { block := r,off := 0 } 5) fun b_9 => .loadB (Addr.add { block := r,off := 0 } 6) fun b_10 => .loadI .i64 (Addr.add { block := r,off := 0 } 7) fun n_7 => .leaf (.ret (.agg #[.slice p n c,.bool b,.bool b_6,.bool b_7,.bool b_8,.bool b_9,.bool b_10,.int .i64 n_7])))))) else .loadS (Addr.add { block := r,off := 0 } 0) fun p n c => .loadB (Addr.add { block := r,off := 0 } 1) fun b => .loadB (Addr.add { block := r,off := 0 } 2) fun b_6 => .loadB (Addr.add { block := r,off := 0 } 3) fun b_7 => .loadB (Addr.add { block := r,off := 0 } 4) fun b_8 => .loadB (Addr.add { block := r,off := 0 } 5) fun b_9 => .loadB (Addr.add { block := r,off := 0 } 6) fun b_10 => .loadI .i64 (Addr.add { block := r,off := 0 } 7) fun n_6 => .leaf (.ret (.agg #[.slice p n c,.bool b,.bool b_6,.bool b_7,.bool b_8,.bool b_9,.bool b_10,.int .i64 n_6]))))
theorem w3158 (b_0p:Option Addr) (b_0n b_0c:Nat) (b_1p:Option Addr) (b_1n b_1c:Nat) (x_0p:Option Addr) (x_0n x_0c:Nat) (x_1 x_2 x_3 x_4 x_5 x_6:Bool) (x_7 i:Int) (hX:XOK X) (hw:(n3158 b_0p b_0n b_0c b_1p b_1n b_1c x_0p x_0n x_0c x_1 x_2 x_3 x_4 x_5 x_6 x_7 i).wp X Tryz.prog (retQ A) h):FWK X Tryz.prog .normal 69 #[.agg #[.slice b_0p b_0n b_0c,.slice b_1p b_1n b_1c],.agg #[.slice x_0p x_0n x_0c,.bool x_1,.bool x_2,.bool x_3,.bool x_4,.bool x_5,.bool x_6,.int .i64 x_7],.int .i64 i] h A := fwk_neat (priv := [3,6,7]) (loops := []) (joins := []) (fd := Tryz.f69) (by kernel_rfl) (by simp) (by kernel_rfl) (by kernel_rfl) hX hw
noncomputable def n3176 (some all:Int):T := bif some == all then .leaf (.ret (.int .i64 1)) else bif some == 0 then .leaf (.ret (.int .i64 2)) else .leaf (.ret (.int .i64 0))
theorem w3176 (some all:Int) (hX:XOK X) (hw:(n3176 some all).wp X Tryz.prog (retQ A) h):FWK X Tryz.prog .normal 95 #[.int .i64 some,.int .i64 all] h A := fwk_neat (priv := []) (loops := []) (joins := []) (fd := Tryz.f95) (by kernel_rfl) (by simp) (by kernel_rfl) (by kernel_rfl) hX hw
noncomputable def n3179 (b_0p:Option Addr) (b_0n b_0c:Nat) (b_1p:Option Addr) (b_1n b_1c:Nat) (c_0:ByteArray) (c_1:Int) (c_2p:Option Addr) (c_2n c_2c:Nat) (c_3p:Option Addr) (c_3n c_3c:Nat) (s_0 s_1 s_2 s_3 s_4 s_5:Bool):T := .new 128 #[.bool s_0,.bool s_1,.bool s_2,.bool s_3,.bool s_4,.bool s_5] fun r => .call false 141 #[.slice c_2p c_2n c_2c,.func (Fn.func 142) #[] #[.pointer (some { block := r,off := 0 })]] fun v => .unB v fun b => .leaf (.ret (.bool b))
theorem w3179 (b_0p:Option Addr) (b_0n b_0c:Nat) (b_1p:Option Addr) (b_1n b_1c:Nat) (c_0:ByteArray) (c_1:Int) (c_2p:Option Addr) (c_2n c_2c:Nat) (c_3p:Option Addr) (c_3n c_3c:Nat) (s_0 s_1 s_2 s_3 s_4 s_5:Bool) (hX:XOK X) (hw:(n3179 b_0p b_0n b_0c b_1p b_1n b_1c c_0 c_1 c_2p c_2n c_2c c_3p c_3n c_3c s_0 s_1 s_2 s_3 s_4 s_5).wp X Tryz.prog (retQ A) h):FWK X Tryz.prog .normal 109 #[.agg #[.slice b_0p b_0n b_0c,.slice b_1p b_1n b_1c],.agg #[.string c_0,.int .i64 c_1,.slice c_2p c_2n c_2c,.slice c_3p c_3n c_3c],.agg #[.bool s_0,.bool s_1,.bool s_2,.bool s_3,.bool s_4,.bool s_5]] h A := fwk_neat (priv := [3,4]) (loops := []) (joins := []) (fd := Tryz.f109) (by kernel_rfl) (by simp) (by kernel_rfl) (by kernel_rfl) hX hw
noncomputable def n3204 (sp:Option Addr) (sn sc:Nat) (f:Value):T := .call false 158 #[.slice sp sn sc,f] fun v => .unI .i64 v fun n => .leaf (.ret (.bool (decide (n >= 0))))
theorem w3204 (sp:Option Addr) (sn sc:Nat) (f:Value) (hX:XOK X) (hw:(n3204 sp sn sc f).wp X Tryz.prog (retQ A) h):FWK X Tryz.prog .normal 141 #[.slice sp sn sc,f] h A := fwk_neat (priv := []) (loops := []) (joins := []) (fd := Tryz.f141) (by kernel_rfl) (by simp) (by kernel_rfl) (by kernel_rfl) hX hw
noncomputable def n3205 (gp:Option Addr) (gn gc:Nat) (z0:Addr):T := .call false 143 #[.slice gp gn gc,.func (Fn.func 144) #[] #[.pointer (some z0)]] fun v => .unB v fun b => .leaf (.ret (.bool !b))
theorem w3205 (gp:Option Addr) (gn gc:Nat) (z0:Addr) (hX:XOK X) (hw:(n3205 gp gn gc z0).wp X Tryz.prog (retQ A) h):FWK X Tryz.prog .normal 142 #[.slice gp gn gc,.pointer (some z0)] h A := fwk_neat (priv := []) (loops := []) (joins := []) (fd := Tryz.f142) (by kernel_rfl) (by simp) (by kernel_rfl) (by kernel_rfl) hX hw
noncomputable def n3206 (sp:Option Addr) (sn sc:Nat) (f:Value):T := .call false 159 #[.slice sp sn sc,f] fun v => .unI .i64 v fun n => .leaf (.ret (.bool (decide (n >= 0))))
theorem w3206 (sp:Option Addr) (sn sc:Nat) (f:Value) (hX:XOK X) (hw:(n3206 sp sn sc f).wp X Tryz.prog (retQ A) h):FWK X Tryz.prog .normal 143 #[.slice sp sn sc,f] h A := fwk_neat (priv := []) (loops := []) (joins := []) (fd := Tryz.f143) (by kernel_rfl) (by simp) (by kernel_rfl) (by kernel_rfl) hX hw
noncomputable def n3207 (r:Int) (z0:Addr):T := .need (0 <= r /\ r < (↑6:Int)) (.loadB (z0.add (r.toNat * 1)) fun b => .leaf (.ret (.bool !b)))
theorem w3207 (r:Int) (z0:Addr) (hX:XOK X) (hw:(n3207 r z0).wp X Tryz.prog (retQ A) h):FWK X Tryz.prog .normal 144 #[.int .i64 r,.pointer (some z0)] h A := fwk_neat (priv := []) (loops := []) (joins := []) (fd := Tryz.f144) (by kernel_rfl) (by simp) (by kernel_rfl) (by kernel_rfl) hX hw
noncomputable def n3238 (sp:Option Addr) (sn sc:Nat) (f:Value):T := .loop [.int .i64 0,.int .i64 0] (fun vs => .popI .i64 vs fun n vs => .popI .i64 vs fun n_1 vs => .unNil vs (bif decide (n_1 < (↑sn:Int)) then .need (0 <= n_1 /\ n_1 < (↑sn:Int)) (.someA sp fun a => .loadS (a.add (n_1.toNat * 1)) fun p n_2 c => .callv false f #[.slice p n_2 c] fun v => .unB v fun b => bif b then .leaf (.retn [.int .i64 n_1,.int .i64 n_1]) else .leaf (.again [.int .i64 n,.int .i64 (IntKind.wrap .i64 (n_1 + 1))])) else .leaf (.brk [.int .i64 n,.int .i64 n_1]))) (fun vs => .popI .i64 vs fun n vs => .popI .i64 vs fun n vs => .unNil vs (.leaf (.ret (.int .i64 (-1))))) (fun vs => .popI .i64 vs fun n vs => .popI .i64 vs fun n_1 vs => .unNil vs (.leaf (.ret (.int .i64 n)))) fun x x_1 => .fail
theorem w3238 (sp:Option Addr) (sn sc:Nat) (f:Value) (hX:XOK X) (hw:(n3238 sp sn sc f).wp X Tryz.prog (retQ A) h):FWK X Tryz.prog .normal 158 #[.slice sp sn sc,f] h A := fwk_neat (priv := []) (loops := [{ id := 0,slots := [(4,.int .i64),(8,.int .i64)],ro := [],outs := [] }]) (joins := []) (fd := Tryz.f158) (by kernel_rfl) (by simp) (by kernel_rfl) (by kernel_rfl) hX hw
noncomputable def n3248 (b_0p:Option Addr) (b_0n b_0c:Nat) (b_1p:Option Addr) (b_1n b_1c:Nat):T := bif decide ((↑b_0n:Int) > 6) then .leaf (.ret (.int .i64 2)) else .sem false (Instr.makeMap 281 none) fun v => .unM v fun a => .loop [.int .i64 0,.int .i64 0] (fun vs => .popI .i64 vs fun n vs => .popI .i64 vs fun n_1 vs => .unNil vs (bif decide (n_1 < (↑b_0n:Int)) then .need (0 <= n_1 /\ n_1 < (↑b_0n:Int)) (.someA b_0p fun a_1 => .loadStr (a_1.add (n_1.toNat * 1)) fun s => .call false 204 #[.map a,.string s,.int .i64 n_1] fun v => .unI .i64 v fun n_2 => bif n_2 != 0 then .leaf (.retn [.int .i64 n_2,.int .i64 n_1]) else .leaf (.again [.int .i64 n,.int .i64 (IntKind.wrap .i64 (n_1 + 1))])) else .leaf (.brk [.int .i64 n,.int .i64 n_1]))) (fun vs => .popI .i64 vs fun n vs => .popI .i64 vs fun n vs => .unNil vs (.leaf (.ret (.int .i64 0)))) (fun vs => .popI .i64 vs fun n vs => .popI .i64 vs fun n_1 vs => .unNil vs (.leaf (.ret (.int .i64 n)))) fun x x_1 => .fail
theorem w3248 (b_0p:Option Addr) (b_0n b_0c:Nat) (b_1p:Option Addr) (b_1n b_1c:Nat) (hX:XOK X) (hw:(n3248 b_0p b_0n b_0c b_1p b_1n b_1c).wp X Tryz.prog (retQ A) h):FWK X Tryz.prog .normal 201 #[.agg #[.slice b_0p b_0n b_0c,.slice b_1p b_1n b_1c]] h A := fwk_neat (priv := [1]) (loops := [{ id := 0,slots := [(2,.int .i64),(17,.int .i64)],ro := [1],outs := [] }]) (joins := []) (fd := Tryz.f201) (by kernel_rfl) (by simp) (by kernel_rfl) (by kernel_rfl) hX hw
noncomputable def n3249 (b_0p:Option Addr) (b_0n b_0c:Nat) (b_1p:Option Addr) (b_1n b_1c:Nat):T := bif decide ((↑b_1n:Int) > 5) then .leaf (.ret (.int .i64 2)) else .sem false (Instr.makeMap 281 none) fun v => .unM v fun a => .loop [.int .i64 0,.int .i64 0] (fun vs => .popI .i64 vs fun n vs => .popI .i64 vs fun n_1 vs => .unNil vs (bif decide (n_1 < (↑b_1n:Int)) then .need (0 <= n_1 /\ n_1 < (↑b_1n:Int)) (.someA b_1p fun a_1 => .loadStr ((a_1.add (n_1.toNat * 4)).add 0) fun s => .loadI .i64 ((a_1.add (n_1.toNat * 4)).add 1) fun n_2 => .loadS ((a_1.add (n_1.toNat * 4)).add 2) fun p n_3 c => .loadS ((a_1.add (n_1.toNat * 4)).add 3) fun p_1 n_4 c_1 => .call false 204 #[.map a,.string s,.int .i64 n_1] fun v => .unI .i64 v fun n_5 => bif n_5 != 0 then .leaf (.retn [.int .i64 n_5,.int .i64 n_1]) else .call false 67 #[.int .i64 n_2,.int .i64 0,.int .i64 (IntKind.wrap .i64 ((↑b_0n:Int) - 1))] fun v => .unB v fun b => bif !b then .leaf (.retn [.int .i64 6,.int .i64 n_1]) else .call false 205 #[.agg #[.slice b_0p b_0n b_0c,.slice b_1p b_1n b_1c],.slice p n_3 c] fun v => .unI .i64 v fun n_6 => bif n_6 != 0 then .leaf (.retn [.int .i64 n_6,.int .i64 n_1]) else .call false 53 #[.slice p_1 n_4 c_1,.int .i64 (↑b_1n:Int)] fun v => .unI .i64 v fun n_7 => bif n_7 != 0 then .leaf (.retn [.int .i64 n_7,.int .i64 n_1]) else .leaf (.again [.int .i64 n,.int .i64 (IntKind.wrap .i64 (n_1 + 1))])) else .leaf (.brk [.int .i64 n,.int .i64 n_1]))) (fun vs => .popI .i64 vs fun n vs => .popI .i64 vs fun n vs => .unNil vs (.leaf (.ret (.int .i64 0)))) (fun vs => .popI .i64 vs fun n vs => .popI .i64 vs fun n_1 vs => .unNil vs (.leaf (.ret (.int .i64 n)))) fun x x_1 => .fail
theorem w3249 (b_0p:Option Addr) (b_0n b_0c:Nat) (b_1p:Option Addr) (b_1n b_1c:Nat) (hX:XOK X) (hw:(n3249 b_0p b_0n b_0c b_1p b_1n b_1c).wp X Tryz.prog (retQ A) h):FWK X Tryz.prog .normal 202 #[.agg #[.slice b_0p b_0n b_0c,.slice b_1p b_1n b_1c]] h A := fwk_neat (priv := [1,5]) (loops := [{ id := 0,slots := [(2,.int .i64),(19,.int .i64)],ro := [1],outs := [] }]) (joins := []) (fd := Tryz.f202) (by kernel_rfl) (by simp) (by kernel_rfl) (by kernel_rfl) hX hw
noncomputable def n3250 (b_0p:Option Addr) (b_0n b_0c:Nat) (b_1p:Option Addr) (b_1n b_1c:Nat):T := .loop [.int .i64 0,.int .i64 0] (fun vs => .popI .i64 vs fun n vs => .popI .i64 vs fun n_1 vs => .unNil vs (bif decide (n_1 < (↑b_1n:Int)) then .loop [.int .i64 n,.int .i64 0] (fun vs => .popI .i64 vs fun n vs => .popI .i64 vs fun n_2 vs => .unNil vs (bif decide (n_2 < (↑b_1n:Int)) then .need (0 <= n_2 /\ n_2 < (↑b_1n:Int)) (.someA b_1p fun a => .loadStr ((a.add (n_2.toNat * 4)).add 0) fun s => .loadI .i64 ((a.add (n_2.toNat * 4)).add 1) fun n_3 => .loadS ((a.add (n_2.toNat * 4)).add 2) fun p n_4 c => .loadS ((a.add (n_2.toNat * 4)).add 3) fun p n_5 c => .call false 50 #[.slice p n_5 c] fun v => .unI .i64 v fun n_6 => bif IntKind.wrap .i64 (↑(BitVec.toNat (BitVec.ofInt 64 n_6 &&& ~~~BitVec.ofInt 64 n)):Int) == 0 then .need (0 <= n_2) (.leaf (.again [.int .i64 (IntKind.wrap .i64 (↑(BitVec.toNat (BitVec.ofInt 64 n ||| BitVec.ofInt 64 (IntKind.wrap .i64 (1 * 2 ^ min (n_2.toNat) 64)))):Int)),.int .i64 (IntKind.wrap .i64 (n_2 + 1))])) else .leaf (.again [.int .i64 n,.int .i64 (IntKind.wrap .i64 (n_2 + 1))])) else .leaf (.brk [.int .i64 n,.int .i64 n_2]))) (fun vs => .popI .i64 vs fun n vs => .popI .i64 vs fun n_2 vs => .unNil vs (.leaf (.again [.int .i64 n,.int .i64 (IntKind.wrap .i64 (n_1 + 1))]))) (fun vs => .popI .i64 vs fun n vs => .popI .i64 vs fun n_2 vs => .unNil vs (.leaf (.retn [.int .i64 n,.int .i64 n_1]))) fun x x_1 => .fail else .leaf (.brk [.int .i64 n,.int .i64 n_1]))) (fun vs => .popI .i64 vs fun n vs => .popI .i64 vs fun n_1 vs => .unNil vs (.need (0 <= (↑b_1n:Int)) (bif n != IntKind.wrap .i64 (IntKind.wrap .i64 (1 * 2 ^ min (Int.toNat (↑b_1n:Int)) 64) - 1) then .leaf (.ret (.int .i64 8)) else .leaf (.ret (.int .i64 0))))) (fun vs => .popI .i64 vs fun n vs => .popI .i64 vs fun n vs => .unNil vs (.leaf (.ret (.int .i64 0)))) fun x x_1 => .fail
theorem w3250 (b_0p:Option Addr) (b_0n b_0c:Nat) (b_1p:Option Addr) (b_1n b_1c:Nat) (hX:XOK X) (hw:(n3250 b_0p b_0n b_0c b_1p b_1n b_1c).wp X Tryz.prog (retQ A) h):FWK X Tryz.prog .normal 203 #[.agg #[.slice b_0p b_0n b_0c,.slice b_1p b_1n b_1c]] h A := fwk_neat (priv := [1,5]) (loops := [{ id := 2,slots := [(3,.int .i64),(16,.int .i64)],ro := [1],outs := [] },{ id := 0,slots := [(3,.int .i64),(10,.int .i64)],ro := [1],outs := [] }]) (joins := []) (fd := Tryz.f203) (by kernel_rfl) (by simp) (by kernel_rfl) (by kernel_rfl) hX hw
noncomputable def n3251 (n:Option Nat) (s:ByteArray) (at0:Int):T := .call false 206 #[.string s] fun v => .unB v fun b => bif !b then .leaf (.ret (.int .i64 4)) else .sem false (Instr.lookup 281 (.map n) (.string s) true) fun v => .unTup v fun l => .unCons l fun v vs => .unI .i64 v fun n_1 => .unCons vs fun v vs => .unB v fun b => .unNil vs (bif b then .leaf (.ret (.int .i64 5)) else .sem false (Sem.bind (Instr.mapUpdate 281 (.map n) (.string s) (.int .i64 at0)) fun __r => pure (.tuple #[])) fun x => .leaf (.ret (.int .i64 0)))
theorem w3251 (n:Option Nat) (s:ByteArray) (at0:Int) (hX:XOK X) (hw:(n3251 n s at0).wp X Tryz.prog (retQ A) h):FWK X Tryz.prog .normal 204 #[.map n,.string s,.int .i64 at0] h A := fwk_neat (priv := []) (loops := []) (joins := []) (fd := Tryz.f204) (by kernel_rfl) (by simp) (by kernel_rfl) (by kernel_rfl) hX hw
noncomputable def n3252 (b_0p:Option Addr) (b_0n b_0c:Nat) (b_1p:Option Addr) (b_1n b_1c:Nat) (lp:Option Addr) (ln lc:Nat):T := bif decide ((↑ln:Int) > 3) then .leaf (.ret (.int .i64 2)) else .loop [.int .i64 0,.int .i64 0] (fun vs => .popI .i64 vs fun n vs => .popI .i64 vs fun n_1 vs => .unNil vs (bif decide (n_1 < (↑ln:Int)) then .need (0 <= n_1 /\ n_1 < (↑ln:Int)) (.someA lp fun a => .loadS (a.add (n_1.toNat * 1)) fun p n_2 c => bif decide ((↑n_2:Int) > 3) then .leaf (.retn [.int .i64 2,.int .i64 n_1]) else .call false 53 #[.slice p n_2 c,.int .i64 (↑b_0n:Int)] fun v => .unI .i64 v fun n_3 => bif n_3 != 0 then .leaf (.retn [.int .i64 n_3,.int .i64 n_1]) else .leaf (.again [.int .i64 n,.int .i64 (IntKind.wrap .i64 (n_1 + 1))])) else .leaf (.brk [.int .i64 n,.int .i64 n_1]))) (fun vs => .popI .i64 vs fun n vs => .popI .i64 vs fun n vs => .unNil vs (.leaf (.ret (.int .i64 0)))) (fun vs => .popI .i64 vs fun n vs => .popI .i64 vs fun n_1 vs => .unNil vs (.leaf (.ret (.int .i64 n)))) fun x x_1 => .fail
theorem w3252 (b_0p:Option Addr) (b_0n b_0c:Nat) (b_1p:Option Addr) (b_1n b_1c:Nat) (lp:Option Addr) (ln lc:Nat) (hX:XOK X) (hw:(n3252 b_0p b_0n b_0c b_1p b_1n b_1c lp ln lc).wp X Tryz.prog (retQ A) h):FWK X Tryz.prog .normal 205 #[.agg #[.slice b_0p b_0n b_0c,.slice b_1p b_1n b_1c],.slice lp ln lc] h A := fwk_neat (priv := [2]) (loops := [{ id := 0,slots := [(4,.int .i64),(13,.int .i64)],ro := [2],outs := [] }]) (joins := []) (fd := Tryz.f205) (by kernel_rfl) (by simp) (by kernel_rfl) (by kernel_rfl) hX hw
noncomputable def n3253 (s:ByteArray):T := .sem false (Builtin.len_ #[9] 3 #[.string s]) fun v => .unI .i64 v fun n => .call false 67 #[.int .i64 n,.int .i64 1,.int .i64 10] fun v => .unB v fun b => bif !b then .leaf (.ret (.bool false)) else .sem false (Instr.index 9 (.string s) (.int .i64 0)) fun v => .unI .u8 v fun n => bif decide (n < 97) then .leaf (.ret (.bool false)) else .sem false (Instr.index 9 (.string s) (.int .i64 0)) fun v => .unI .u8 v fun n => bif decide (n > 122) then .leaf (.ret (.bool false)) else .sem false (convert 9 285 (.string s)) fun v => .unS v fun a n c => .call false 207 #[.slice a n c,.func (Fn.func 208) #[] #[]] fun v => .unB v fun b => .leaf (.ret (.bool !b))
theorem w3253 (s:ByteArray) (hX:XOK X) (hw:(n3253 s).wp X Tryz.prog (retQ A) h):FWK X Tryz.prog .normal 206 #[.string s] h A := fwk_neat (priv := []) (loops := []) (joins := []) (fd := Tryz.f206) (by kernel_rfl) (by simp) (by kernel_rfl) (by kernel_rfl) hX hw
noncomputable def n3254 (c:Int):T := bif decide (c < 97) then bif decide (c < 48) then .leaf (.ret (.bool true)) else .leaf (.ret (.bool (decide (c > 57)))) else bif decide (c > 122) then bif decide (c < 48) then .leaf (.ret (.bool true)) else .leaf (.ret (.bool (decide (c > 57)))) else .leaf (.ret (.bool false))
theorem w3254 (c:Int) (hX:XOK X) (hw:(n3254 c).wp X Tryz.prog (retQ A) h):FWK X Tryz.prog .normal 208 #[.int .u8 c] h A := fwk_neat (priv := []) (loops := []) (joins := []) (fd := Tryz.f208) (by kernel_rfl) (by simp) (by kernel_rfl) (by kernel_rfl) hX hw
end Go.Proofs.YtgljffachdhigaaGreatDoor
end
section
namespace Go.Proofs.YtgljffachdhigaaGreatDoor
open Go Go.TM Go.Proofs Go.TM.Rv
attribute [local irreducible] T.wp CV FWK
theorem c3150 {h:LH} {p:Option Addr} {n c:Nat} {l:List Int} (hl:Sl IntE 1 h.get p n l) (hin:∀ v ∈ l,0 <= v /\ v < 6):Pu Tryz.prog 50 #[.slice p n c] h (.int .i64 (bitsT l:Nat)) := by
 refine w3150 _ _ _ X0_ok ?_
 unfold n3150
 have hn := hl.1
 have hb := hl.2.1
 refine t_loop (fun m vs h' => h' = h /\ ∃ i:Nat,vs = [.int .i64 ((bitsT (l.take i):Nat):Int),.int .i64 i] /\ i <= n /\ m = n - i) ⟨rfl,0,rfl,Nat.zero_le _,rfl⟩ ?_
 rintro Y m vs _ hY ⟨rfl,i,rfl,hi,rfl⟩
 refine gZ ?_
 refine t_if (fun e1 => ?_) (fun e1 => ?_)
 ·obtain ⟨x,a,hx,ha,e2⟩ := hl.at (i := i) (by omega)
  unfold IntE at e2
  have hv := hin x (List.mem_of_getElem? hx)
  have hlt:bitsT (l.take i) < 64 := bits_lt (k := 6) fun v hm => by have := hin v (List.mem_of_mem_take hm); omega
  obtain ⟨k,rfl⟩ : ∃ k:Nat,x = (k:Int) := ⟨x.toNat,by omega⟩
  have eo := or_shl (n := k) hlt (by omega)
  refine gZ ?_
  rw [eo]
  refine t_again (hY (n - (i + 1)) _ _ (by omega) ⟨rfl,i + 1,?_,by omega,rfl⟩)
  rw [wrap_id (n := (i:Int) + 1) (by omega) (by omega),bits_step hx,Int.toNat_natCast]; rfl
 ·refine gZ ?_
  refine t_ret ⟨?_,rfl⟩
  rw [List.take_of_length_le (by omega)]
theorem c3157 {h:LH} (n a b:Int):Pu Tryz.prog 67 #[.int .i64 n,.int .i64 a,.int .i64 b] h (.bool (isIn n a b)) := by
 refine w3157 _ _ _ X0_ok ?_
 unfold n3157
 refine t_if (fun e => ?_) (fun e => ?_) <;> refine t_ret ⟨?_,rfl⟩ <;> simp [isIn,e]
theorem isIn_true {n a b:Int} (h:a <= n /\ n <= b):isIn n a b = true := by unfold isIn; simp [h]
theorem c3153 {h:LH} {p:Option Addr} {n c:Nat} {l:List Int} (hl:Sl IntE 1 h.get p n l) {b:Int} (hb:0 <= b /\ b < 100) (hp:l.Pairwise (· < ·)) (hin:∀ v ∈ l,0 <= v /\ v < b):Pu Tryz.prog 53 #[.slice p n c,.int .i64 b] h (.int .i64 0) := by
 refine w3153 _ _ _ _ X0_ok ?_
 unfold n3153
 have hn := hl.1
 have hbb := hl.2.1
 rw [wrap_id (n := b - 1) (by omega) (by omega)]
 refine t_loop (fun m vs h' => h = h' /\ ∃ i:Nat,vs = [.int .i64 0,.int .i64 i] /\ i <= n /\ m = n - i) ⟨rfl,0,rfl,Nat.zero_le _,rfl⟩ ?_
 rintro Y m vs _ hY ⟨rfl,i,rfl,hi,rfl⟩
 refine gZ ?_
 refine t_if (fun e1 => ?_) (fun e1 => ?_)
 ·obtain ⟨x,a,hx,ha,e2⟩ := hl.at (i := i) (by omega)
  unfold IntE at e2
  have hv := hin x (List.mem_of_getElem? hx)
  refine gZ ?_
  refine t_pu (c3157 _ _ _) ?_
  rw [isIn_true (by omega)]
  refine gZ ?_
  refine t_cond (fun e => by cases e) (fun _ => ?_)
  have next:Y [.int .i64 0,.int .i64 (IntKind.wrap .i64 ((i:Int) + 1))] h := hY (n - (i + 1)) _ _ (by omega) ⟨rfl,i + 1,by rw [wrap_id (by omega) (by omega)]; rfl,by omega,rfl⟩
  refine t_if (fun e3 => ?_) (fun e3 => ?_)
  ·obtain ⟨y,a',hy,ha',e4⟩ := hl.at (i := i - 1) (by omega)
   obtain rfl:a = a' := Option.some.inj (ha.symm.trans ha')
   unfold IntE at e4
   have ew:IntKind.wrap .i64 ((i:Int) - 1) = ((i - 1:Nat):Int) := by rw [wrap_id (by omega) (by omega)]; omega
   rw [ew]
   have hlt:y < x := by
    obtain ⟨h1,h2⟩ := List.getElem?_eq_some_iff.1 hx
    obtain ⟨h3,h4⟩ := List.getElem?_eq_some_iff.1 hy
    have := List.pairwise_iff_getElem.1 hp (i - 1) i h3 h1 (by omega)
    rw [h4,h2] at this
    exact this
   refine gZ ?_
   refine t_if (fun e => by omega) (fun _ => ?_)
   exact t_again next
  ·exact t_again next
 ·refine gZ ?_
  exact t_ret ⟨rfl,rfl⟩
theorem c3176 {h:LH} (some_ all:Nat):Pu Tryz.prog 95 #[.int .i64 (some_:Int),.int .i64 (all:Int)] h (.int .i64 (sayT some_ all)) := by
 refine w3176 _ _ X0_ok ?_
 unfold n3176
 unfold sayT
 refine t_cond (fun e => ?_) (fun e => ?_)
 ·have e':some_ = all := by have := eq_of_beq e; omega
  rw [if_pos e']
  exact t_ret ⟨rfl,rfl⟩
 ·have e':¬ some_ = all := fun hh => by subst hh; simp at e
  rw [if_neg e']
  refine t_cond (fun e => ?_) (fun e => ?_)
  ·have e':some_ = 0 := by have := eq_of_beq e; omega
   rw [if_pos e']
   exact t_ret ⟨rfl,rfl⟩
  ·have e':¬ some_ = 0 := fun hh => by subst hh; simp at e
   rw [if_neg e']
   exact t_ret ⟨rfl,rfl⟩
theorem p3134 {h:LH} {p:Option Addr} {n c:Nat} {l:List Int} {fv:Value} {g:Int -> Bool} (hl:Sl IntE 1 h.get p n l) (hf:∀ x ∈ l,CV X0 Tryz.prog fv #[.int .i64 x] h fun r h' => r = .bool (g x) /\ h' = h) :
  Pu Tryz.prog 159 #[.slice p n c,fv] h (.int .i64 (placeF g 0 l)) := by
 refine w3134 _ _ _ _ X0_ok ?_
 unfold n3134
 have hn := hl.1
 have hb := hl.2.1
 refine t_loop (fun m vs h' => h' = h /\ ∃ i:Nat,vs = [.int .i64 0,.int .i64 i] /\ i <= n /\ m = n - i /\ placeF g 0 l = placeF g i (l.drop i)) ⟨rfl,0,rfl,Nat.zero_le _,rfl,rfl⟩ ?_
 rintro Y m vs _ hY ⟨rfl,i,rfl,hi,rfl,hc⟩
 refine gZ ?_
 refine t_if (fun e1 => ?_) (fun e1 => ?_)
 ·obtain ⟨x,a,hx,ha,e2⟩ := hl.at (i := i) (by omega)
  unfold IntE at e2
  refine gZ ?_
  refine t_callv (hf x (List.mem_of_getElem? hx)) ?_
  rintro _ _ ⟨rfl,rfl⟩
  refine gZ ?_
  rw [drop_of hx,placeF] at hc
  refine t_cond (fun e3 => ?_) (fun e3 => ?_)
  ·refine gZ ?_
   refine t_ret ⟨?_,rfl⟩
   rw [hc,if_pos e3]
  ·refine t_again (hY (n - (i + 1)) _ _ (by omega) ⟨rfl,i + 1,?_,by omega,rfl,?_⟩)
   ·rw [wrap_id (by omega) (by omega)]; rfl
   ·rw [hc,if_neg (by simp [e3])]
 ·refine gZ ?_
  refine t_ret ⟨?_,rfl⟩
  rw [hc,List.drop_eq_nil_of_le (by omega)]; rfl
theorem c3206 {h:LH} {p:Option Addr} {n c:Nat} {l:List Int} {fv:Value} {g:Int -> Bool} (hl:Sl IntE 1 h.get p n l) (hf:∀ x ∈ l,CV X0 Tryz.prog fv #[.int .i64 x] h fun r h' => r = .bool (g x) /\ h' = h) :
  Pu Tryz.prog 143 #[.slice p n c,fv] h (.bool (l.any g)) := by
 refine w3206 _ _ _ _ X0_ok ?_
 unfold n3206
 refine t_pu (p3134 hl hf) ?_
 refine gZ ?_
 refine t_ret ⟨?_,rfl⟩
 rw [placeF_ge]
theorem c3238 {h:LH} {p:Option Addr} {n c:Nat} {l:List (List Int)} {fv:Value} {g:List Int -> Bool} (hl:Sl LsE 1 h.get p n l) (hf:∀ x ∈ l,∀ q m k,Sl IntE 1 h.get q m x -> CV X0 Tryz.prog fv #[.slice q m k] h fun r h' => r = .bool (g x) /\ h' = h) :
  Pu Tryz.prog 158 #[.slice p n c,fv] h (.int .i64 (placeF g 0 l)) := by
 refine w3238 _ _ _ _ X0_ok ?_
 unfold n3238
 have hn := hl.1
 have hb := hl.2.1
 refine t_loop (fun m vs h' => h' = h /\ ∃ i:Nat,vs = [.int .i64 0,.int .i64 i] /\ i <= n /\ m = n - i /\ placeF g 0 l = placeF g i (l.drop i)) ⟨rfl,0,rfl,Nat.zero_le _,rfl,rfl⟩ ?_
 rintro Y m vs _ hY ⟨rfl,i,rfl,hi,rfl,hc⟩
 refine gZ ?_
 refine t_if (fun e1 => ?_) (fun e1 => ?_)
 ·obtain ⟨x,a,hx,ha,q,m,k,e2,e4⟩ := hl.at (i := i) (by omega)
  refine gZ ?_
  refine t_callv (hf x (List.mem_of_getElem? hx) q m k e4) ?_
  rintro _ _ ⟨rfl,rfl⟩
  refine gZ ?_
  rw [drop_of hx,placeF] at hc
  refine t_cond (fun e3 => ?_) (fun e3 => ?_)
  ·refine gZ ?_
   refine t_ret ⟨?_,rfl⟩
   rw [hc,if_pos e3]
  ·refine t_again (hY (n - (i + 1)) _ _ (by omega) ⟨rfl,i + 1,?_,by omega,rfl,?_⟩)
   ·rw [wrap_id (by omega) (by omega)]; rfl
   ·rw [hc,if_neg (by simp [e3])]
 ·refine gZ ?_
  refine t_ret ⟨?_,rfl⟩
  rw [hc,List.drop_eq_nil_of_le (by omega)]; rfl
theorem c3204 {h:LH} {p:Option Addr} {n c:Nat} {l:List (List Int)} {fv:Value} {g:List Int -> Bool} (hl:Sl LsE 1 h.get p n l) (hf:∀ x ∈ l,∀ q m k,Sl IntE 1 h.get q m x -> CV X0 Tryz.prog fv #[.slice q m k] h fun r h' => r = .bool (g x) /\ h' = h) :
  Pu Tryz.prog 141 #[.slice p n c,fv] h (.bool (l.any g)) := by
 refine w3204 _ _ _ _ X0_ok ?_
 unfold n3204
 refine t_pu (c3238 hl hf) ?_
 refine gZ ?_
 refine t_ret ⟨?_,rfl⟩
 rw [placeF_ge]
def SixAt (h:Cells) (a:Addr) (s:List Bool):Prop := s.length = 6 /\ ∀ (j:Nat) b,s[j]? = some b -> h.cell? (a.add j) = some (.bool b)
theorem c3207 {h:LH} {z0:Addr} {s:List Bool} (hs:SixAt h.get z0 s) {r:Int} (hr:0 <= r /\ r < 6):Pu Tryz.prog 144 #[.int .i64 r,.pointer (some z0)] h (.bool (!s.getD r.toNat false)) := by
 refine w3207 _ _ X0_ok ?_
 unfold n3207
 have hlt:r.toNat < s.length := by rw [hs.1]; omega
 have e := hs.2 r.toNat s[r.toNat] (List.getElem?_eq_getElem hlt)
 have e1:h.get.cell? (z0.add (r.toNat * 1)) = some (.bool (s.getD r.toNat false)) := by
  rw [Nat.mul_one,e,List.getD_eq_getElem?_getD,List.getElem?_eq_getElem hlt]; rfl
 have hr':0 <= r /\ r < ((6:Nat):Int) := by omega
 refine gZ ?_
 exact t_ret ⟨rfl,rfl⟩
theorem any_not_all {α:Type} (f:α -> Bool):∀ l:List α,(!(l.any fun r => !f r)) = l.all f
 | [] => rfl
 | v :: l => by
  have := any_not_all f l
  rw [List.any_cons,List.all_cons,<- this]
  cases f v <;> simp
theorem c3205 {h:LH} {z0:Addr} {s:List Bool} (hs:SixAt h.get z0 s) {p:Option Addr} {n c:Nat} {l:List Int} (hl:Sl IntE 1 h.get p n l) (hin:∀ v ∈ l,0 <= v /\ v < 6):Pu Tryz.prog 142 #[.slice p n c,.pointer (some z0)] h (.bool (l.all fun r => s.getD r.toNat false)) := by
 refine w3205 _ _ _ _ X0_ok ?_
 unfold n3205
 refine t_pu (c3206 hl (g := fun r => !s.getD r.toNat false) (fun x hx => ?_)) ?_
 ·exact CV.mono (cv_fw X0_ok (by rfl) (c3207 hs (hin x hx))) (by rintro v h' ⟨rfl,rfl⟩; exact ⟨rfl,rfl⟩)
 refine gZ ?_
 refine t_ret ⟨?_,rfl⟩
 rw [any_not_all]
theorem c3179 {h:LH} {p1 p2 p3 p4:Option Addr} {n1 k1 n2 k2 n3 k3 n4 k4:Nat} {nm:ByteArray} {ag:Int} {gs:List (List Int)} (hg:Sl LsE 1 h.get p3 n3 gs) (hin:∀ g ∈ gs,∀ v ∈ g,0 <= v /\ v < 6) (s0 s1 s2 s3 s4 s5:Bool) :
  Gr Tryz.prog 109 #[.agg #[.slice p1 n1 k1,.slice p2 n2 k2],.agg #[.string nm,.int .i64 ag,.slice p3 n3 k3,.slice p4 n4 k4],.agg #[.bool s0,.bool s1,.bool s2,.bool s3,.bool s4,.bool s5]] h fun r _ => r = .bool (gs.any fun g => g.all fun r => [s0,s1,s2,s3,s4,s5].getD r.toNat false) := by
 refine w3179 _ _ _ _ _ _ _ _ _ _ _ _ _ _ _ _ _ _ _ _ X0_ok ?_
 unfold n3179
 refine t_new fun r hr0 => ?_
 have le1:h.le { h with get := h.get.upd r (true,.cells #[.bool s0,.bool s1,.bool s2,.bool s3,.bool s4,.bool s5] 128 (0,0)) } := LH.upd_le hr0
 have y0:SixAt (h.get.upd r (true,.cells #[.bool s0,.bool s1,.bool s2,.bool s3,.bool s4,.bool s5] 128 (0,0))) ⟨r,0,none⟩ [s0,s1,s2,s3,s4,s5] := ⟨rfl,fun j b hb => bools_cell (s := [s0,s1,s2,s3,s4,s5]) (Cells.upd_self _ _ _) hb⟩
 generalize hh1:({ h with get := h.get.upd r (true,.cells #[.bool s0,.bool s1,.bool s2,.bool s3,.bool s4,.bool s5] 128 (0,0)) }:LH) = h1 at *
 have y1:SixAt h1.get ⟨r,0,none⟩ [s0,s1,s2,s3,s4,s5] := by rw [<- hh1]; exact y0
 refine t_pu (c3204 (hg.le LsE.grow le1.1) (g := fun g => g.all fun r => [s0,s1,s2,s3,s4,s5].getD r.toNat false) (fun x hx q m k hq => ?_)) ?_
 ·exact CV.mono (cv_fw X0_ok (by rfl) (c3205 y1 hq (hin x hx))) (by rintro v h' ⟨rfl,rfl⟩; exact ⟨rfl,rfl⟩)
 refine gZ ?_
 exact t_ret ⟨le1,rfl⟩
end Go.Proofs.YtgljffachdhigaaGreatDoor
end
section
namespace Go.TM.Rv
open Go Go.Conc Go.TM
variable {P:Program} {E:Halt -> Cells -> Prop} {κ:Type} [DecidableEq κ] {enc:κ -> Value}
def updK (F:κ -> Int) (k:κ) (v:Int):κ -> Int := fun x => if x = k then v else F x
structure MapK (enc:κ -> Value) (es:Array MapEntry) (c:Nat) (ks:List κ) (F:κ -> Int):Prop where
 pairs:es.toList.map (fun e => (e.key,e.val)) = ks.map fun k => (enc k,Value.int .i64 (F k))
 nodup:ks.Nodup
 born:(es.toList.map (·.born)).Nodup
 lt:∀ e ∈ es.toList,e.born < c
omit [DecidableEq κ] in
theorem MapK.nil {F:κ -> Int}:MapK enc #[] 0 [] F := ⟨rfl,List.nodup_nil,List.nodup_nil,fun e he => by simp at he⟩
omit [DecidableEq κ] in
theorem MapK.at {es:Array MapEntry} {c:Nat} {ks:List κ} {F:κ -> Int} (M:MapK enc es c ks F) {j:Nat} {e:MapEntry} (he:es.toList[j]? = some e):∃ k,ks[j]? = some k /\ e.key = enc k /\ e.val = .int .i64 (F k) := by
 have h := congrArg (fun l => l[j]?) M.pairs
 simp only [List.getElem?_map,he,Option.map_some] at h
 cases hk:ks[j]? with
 | none => rw [hk] at h; cases h
 | some k =>
  rw [hk] at h
  simp only [Option.map_some,Option.some.injEq,Prod.mk.injEq] at h
  exact ⟨k,rfl,h.1,h.2⟩
omit [DecidableEq κ] in
theorem MapK.of {es:Array MapEntry} {c:Nat} {ks:List κ} {F:κ -> Int} (M:MapK enc es c ks F) {j:Nat} {k:κ} (hk:ks[j]? = some k):∃ e,es.toList[j]? = some e /\ e.key = enc k /\ e.val = .int .i64 (F k) := by
 have h := congrArg (fun l => l[j]?) M.pairs
 simp only [List.getElem?_map,hk,Option.map_some] at h
 cases he:es.toList[j]? with
 | none => rw [he] at h; cases h
 | some e =>
  rw [he] at h
  simp only [Option.map_some,Option.some.injEq,Prod.mk.injEq] at h
  exact ⟨e,rfl,h.1,h.2⟩
omit [DecidableEq κ] in
theorem MapK.mem {es:Array MapEntry} {c:Nat} {ks:List κ} {F:κ -> Int} (M:MapK enc es c ks F) {e:MapEntry} (he:e ∈ es.toList):∃ k,k ∈ ks /\ e.key = enc k /\ e.val = .int .i64 (F k) := by
 obtain ⟨j,hj⟩ := List.mem_iff_getElem?.1 he
 obtain ⟨k,h1,h2⟩ := M.at hj
 exact ⟨k,List.mem_of_getElem? h1,h2⟩
omit [DecidableEq κ] in
theorem nodup_idx {ks:List κ} (h:ks.Nodup) {i j:Nat} {k:κ} (hi:ks[i]? = some k) (hj:ks[j]? = some k):i = j := by
 obtain ⟨h1,h2⟩ := List.getElem?_eq_some_iff.1 hi
 obtain ⟨h3,h4⟩ := List.getElem?_eq_some_iff.1 hj
 have hp := List.pairwise_iff_getElem.1 h
 rcases Nat.lt_trichotomy i j with e | e | e
 ·exact absurd (h2.trans h4.symm) (hp i j h1 h3 e)
 ·exact e
 ·exact absurd (h4.trans h2.symm) (hp j i h3 h1 e)
theorem MapK.modify {es es':Array MapEntry} {c:Nat} {ks:List κ} {F:κ -> Int} (M:MapK enc es c ks F) {j:Nat} {k:κ} {v:Int} {f:MapEntry -> MapEntry} (hj:ks[j]? = some k)
  (hes:∀ i:Nat,es'[i]? = if i = j then (es[i]?).map f else es[i]?) (hf:∀ e,es[j]? = some e -> (f e).key = enc k /\ (f e).val = .int .i64 v /\ (f e).born = e.born):MapK enc es' c ks (updK F k v) := by
 have hes':∀ i:Nat,es'.toList[i]? = if i = j then (es.toList[i]?).map f else es.toList[i]? := fun i => by simpa [Array.getElem?_toList] using hes i
 refine ⟨List.ext_getElem? fun i => ?_,M.nodup,?_,?_⟩
 ·have hp := congrArg (fun l => l[i]?) M.pairs
  simp only [List.getElem?_map] at hp ⊢
  rw [hes']
  by_cases e:i = j
  ·subst e
   rw [if_pos rfl,hj]
   obtain ⟨e0,h1,_⟩ := M.of hj
   obtain ⟨h2,h3,_⟩ := hf e0 (by rw [<- Array.getElem?_toList]; exact h1)
   rw [h1]
   simp [h2,h3,updK]
  ·rw [if_neg e,hp]
   cases hk:ks[i]? with
   | none => rfl
   | some x =>
    have hne:x ≠ k := fun hx => e (nodup_idx M.nodup (hx ▸ hk) hj)
    simp [updK,hne]
 ·have:es'.toList.map (·.born) = es.toList.map (·.born) := by
   refine List.ext_getElem? fun i => ?_
   simp only [List.getElem?_map]
   rw [hes']
   by_cases e:i = j
   ·subst e
    rw [if_pos rfl]
    cases h1:es.toList[i]? with
    | none => rfl
    | some e0 =>
     obtain ⟨_,_,h2⟩ := hf e0 (by rw [<- Array.getElem?_toList]; exact h1)
     simp [h2]
   ·rw [if_neg e]
  rw [this]; exact M.born
 ·intro e he
  obtain ⟨i,hi⟩ := List.mem_iff_getElem?.1 he
  rw [hes'] at hi
  by_cases e1:i = j
  ·subst e1
   rw [if_pos rfl] at hi
   cases h1:es.toList[i]? with
   | none => rw [h1] at hi; cases hi
   | some e0 =>
    rw [h1] at hi
    simp only [Option.map_some,Option.some.injEq] at hi
    obtain ⟨_,_,h2⟩ := hf e0 (by rw [<- Array.getElem?_toList]; exact h1)
    rw [<- hi,h2]
    exact M.lt e0 (List.mem_of_getElem? h1)
  ·rw [if_neg e1] at hi
   exact M.lt e (List.mem_of_getElem? hi)
theorem MapK.push {es:Array MapEntry} {c:Nat} {ks:List κ} {F:κ -> Int} (M:MapK enc es c ks F) {k:κ} {v:Int} (hk:k ∉ ks):MapK enc (es.push { key := enc k,val := .int .i64 v,born := c }) (c + 1) (ks ++ [k]) (updK F k v) := by
 refine ⟨?_,?_,?_,?_⟩
 ·rw [Array.toList_push,List.map_append,M.pairs,List.map_append]
  congr 1
  ·refine List.map_congr_left fun x hx => ?_
   have hne:x ≠ k := fun e => hk (e ▸ hx)
   simp [updK,hne]
  ·simp [updK]
 ·rw [List.nodup_append]
  refine ⟨M.nodup,by simp,fun a ha b hb => ?_⟩
  rw [List.mem_singleton] at hb
  subst hb
  exact fun e => hk (e ▸ ha)
 ·rw [Array.toList_push,List.map_append,List.nodup_append]
  refine ⟨M.born,by simp,fun a ha b hb => ?_⟩
  obtain ⟨e,he,rfl⟩ := List.mem_map.1 ha
  have := M.lt e he
  simp at hb
  omega
 ·intro e he
  rw [Array.toList_push,List.mem_append,List.mem_singleton] at he
  rcases he with he | rfl
  ·have := M.lt e he; omega
  ·exact Nat.lt_succ_self c
theorem modify_get {es:Array MapEntry} {f:MapEntry -> MapEntry} (j:Nat):∀ i:Nat,(es.modify j f)[i]? = if i = j then (es[i]?).map f else es[i]? := by
 intro i
 rw [Array.getElem?_modify]
 by_cases hij:j = i
 ·subst hij; simp
 ·rw [if_neg hij,if_neg (Ne.symm hij)]
section
variable {kt:TypeId} {h:Cells} {es:Array MapEntry} {c m:Nat} {ks:List κ} {F:κ -> Int} {k:κ}
omit [DecidableEq κ] in
theorem MapK.keys (M:MapK enc es c ks F) (hf:∀ x,x ∈ ks -> FKey P kt (enc x)):∀ e ∈ es.toList,FKey P kt e.key := fun e he => by
 obtain ⟨x,h1,h2,_⟩ := M.mem he
 rw [h2]; exact hf x h1
omit [DecidableEq κ] in
theorem MapK.found (inj:∀ a b,enc a = enc b -> a = b) (M:MapK enc es c ks F) {j:Nat} {e:MapEntry} (he:es.toList[j]? = some e) (hek:e.key = enc k):ks[j]? = some k /\ e.val = .int .i64 (F k) := by
 obtain ⟨x,h1,h2,h3⟩ := M.at he
 have:x = k := inj _ _ (h2.symm.trans hek)
 subst this
 exact ⟨h1,h3⟩
omit [DecidableEq κ] in
theorem MapK.none (M:MapK enc es c ks F) (hno:∀ e ∈ es.toList,e.key ≠ enc k):k ∉ ks := fun hk => by
 obtain ⟨j,hj⟩ := List.mem_iff_getElem?.1 hk
 obtain ⟨e,h1,h2,_⟩ := M.of hj
 exact hno e (List.mem_of_getElem? h1) h2
variable (inj:∀ a b,enc a = enc b -> a = b)
include inj
theorem lwp_mapPut {Q:Unit -> Cells -> Prop} {t et:TypeId} {v:Int} (hu:P.underlying t = some (.map kt et)) (hm:h m = some (true,.map es c)) (M:MapK enc es c ks F) (hk:FKey P kt (enc k)) (hks:∀ x,x ∈ ks -> FKey P kt (enc x))
  (hq:∀ es' c' ks',MapK enc es' c' ks' (updK F k v) -> (∀ x,x ∈ ks' ↔ x = k \/ x ∈ ks) -> Q () (h.upd m (true,.map es' c'))):Sem.lwp P (Instr.mapUpdate t (.map (some m)) (enc k) (.int .i64 v)) Q E h := by
 unfold Instr.mapUpdate
 rw [lwp_bind,lwp_underlying hu]
 simp only [lwp_bind]
 refine ⟨_,_,hm,trivial,?_⟩
 show Sem.lwp P (_ >>= _) _ E h
 rw [lwp_bind]
 refine lwp_checkKeyK hk ?_
 rw [lwp_bind]
 refine lwp_findKeyK hk (M.keys hks) (fun j e he hek => ?_) fun hno => ?_
 ·have he':es[j]? = some e := by rw [<- Array.getElem?_toList]; exact he
  obtain ⟨h1,_⟩ := M.found inj he hek
  simp only [lwp_bind,Instr.keyThatStays,he',Option.map_some,Option.getD_some,hek,sameBits_flat hk,if_true,lwp_pure]
  refine ⟨⟨_,hm,trivial⟩,hq _ _ ks (M.modify h1 (modify_get j) fun e0 he0 => ⟨rfl,rfl,rfl⟩) fun x => ⟨.inr,?_⟩⟩
  rintro (rfl | hx)
  ·exact List.mem_of_getElem? h1
  ·exact hx
 ·refine ⟨⟨_,hm,trivial⟩,hq _ _ _ (M.push (M.none hno)) fun x => ?_⟩
  rw [List.mem_append,List.mem_singleton,or_comm]
omit [DecidableEq κ] in
theorem lwp_mapGet {Q:Value -> Cells -> Prop} {t et:TypeId} {s b:Nat} {ok:Bool} (hu:P.underlying t = some (.map kt et)) (hi:(P.info? et).map (fun i => (i.size,i.bytes,i.zero)) = some (s,b,some (.int .i64 0))) (hm:h m = some (true,.map es c)) (M:MapK enc es c ks F) (hk:FKey P kt (enc k)) (hks:∀ x,x ∈ ks -> FKey P kt (enc x))
  (h1:k ∈ ks -> Q (if ok then .tuple #[.int .i64 (F k),.bool true] else .int .i64 (F k)) h) (h2:k ∉ ks -> Q (if ok then .tuple #[.int .i64 0,.bool false] else .int .i64 0) h):Sem.lwp P (Instr.lookup t (.map (some m)) (enc k) ok) Q E h := by
 refine lwp_lookupK hu hi ⟨c,hm⟩ hk (M.keys hks) (fun e he hek => ?_) fun hno => h2 (M.none hno)
 obtain ⟨j,hj⟩ := List.mem_iff_getElem?.1 he
 obtain ⟨h3,h4⟩ := M.found inj hj hek
 rw [h4]
 exact h1 (List.mem_of_getElem? h3)
theorem lwp_mapEntry {Q:Value -> Cells -> Prop} {t et:TypeId} {s b:Nat} (hu:P.underlying t = some (.map kt et)) (hi:(P.info? et).map (fun i => (i.size,i.bytes,i.zero)) = some (s,b,some (.int .i64 0))) (hm:h m = some (true,.map es c)) (M:MapK enc es c ks F) (hk:FKey P kt (enc k)) (hks:∀ x,x ∈ ks -> FKey P kt (enc x)) (h0:k ∉ ks -> F k = 0)
  (hq:∀ es' c' ks' (j:Nat) (e:MapEntry),MapK enc es' c' ks' F -> (∀ x,x ∈ ks' ↔ x = k \/ x ∈ ks) -> es'.toList[j]? = some e -> ks'[j]? = some k -> Q (.tuple #[.int .i64 (F k),goInt e.born]) (h.upd m (true,.map es' c'))):Sem.lwp P (Instr.mapEntry t (.map (some m)) (enc k)) Q E h := by
 obtain ⟨inf,g1,_,_,g4⟩ := info_of hi
 unfold Instr.mapEntry
 rw [lwp_bind,lwp_underlying hu]
 simp only [lwp_bind]
 refine ⟨_,_,hm,trivial,?_⟩
 show Sem.lwp P (_ >>= _) _ E h
 rw [lwp_bind]
 refine lwp_checkKeyK hk ?_
 rw [lwp_bind]
 have same:∀ {ks':List κ},updK F k (F k) = F := by
  intro _; funext x; unfold updK; split
  ·rename_i e; rw [e]
  ·rfl
 refine lwp_findKeyK hk (M.keys hks) (fun j e he hek => ?_) fun hno => ?_
 ·have he':es[j]? = some e := by rw [<- Array.getElem?_toList]; exact he
  obtain ⟨h1,h2⟩ := M.found inj he hek
  simp only [lwp_bind,Instr.keyThatStays,he',Option.map_some,Option.getD_some,hek,sameBits_flat hk,if_true,lwp_pure]
  refine ⟨⟨_,hm,trivial⟩,?_⟩
  rw [h2]
  have M':MapK enc (es.modify j fun e => { e with key := enc k }) c ks (updK F k (F k)) := M.modify h1 (modify_get j) fun e0 he0 => by
   rw [he'] at he0
   cases he0
   exact ⟨rfl,h2,rfl⟩
  rw [same (ks' := ks)] at M'
  have hg:(es.modify j fun e => { e with key := enc k }).toList[j]? = some { e with key := enc k } := by
   rw [Array.getElem?_toList,modify_get,if_pos rfl,he']; rfl
  refine hq _ _ ks j { e with key := enc k } M' (fun x => ⟨.inr,?_⟩) hg h1
  rintro (rfl | hx)
  ·exact List.mem_of_getElem? h1
  ·exact hx
 ·have hn := M.none hno
  have M' := M.push (v := F k) hn
  rw [same (ks' := ks)] at M'
  simp only [lwp_bind,lwp_zeroValue g1 g4,lwp_pure]
  refine ⟨⟨_,hm,trivial⟩,?_⟩
  have e0 := h0 hn
  have hl:ks.length = es.toList.length := by
   have := congrArg List.length M.pairs
   simpa using this.symm
  have := hq (es.push { key := enc k,val := .int .i64 (F k),born := c }) (c + 1) (ks ++ [k]) es.toList.length { key := enc k,val := .int .i64 (F k),born := c } M' (fun x => by rw [List.mem_append,List.mem_singleton,or_comm]) (by rw [Array.toList_push]; simp) (by rw [<- hl]; simp)
  rw [e0] at this
  exact this
omit inj in
theorem lwp_entryStore {Q:Unit -> Cells -> Prop} {t:TypeId} {j:Nat} {e:MapEntry} {v:Int} (hm:h m = some (true,.map es c)) (M:MapK enc es c ks F) (he:es.toList[j]? = some e) (hj:ks[j]? = some k)
  (hq:∀ es',MapK enc es' c ks (updK F k v) -> Q () (h.upd m (true,.map es' c))):Sem.lwp P (Instr.entryStore t (.map (some m)) (goInt e.born) (.int .i64 v)) Q E h := by
 unfold Instr.entryStore
 simp only [lwp_bind]
 refine ⟨_,_,hm,trivial,?_⟩
 show Sem.lwp P (_ >>= _) _ E h
 have he':es[j]? = some e := by rw [<- Array.getElem?_toList]; exact he
 have hf:es.findIdx? (fun x => (x.born:Int) == (e.born:Int)) = some j := by
  rw [Array.findIdx?_eq_some_iff_getElem]
  obtain ⟨h1,h2⟩ := Array.getElem?_eq_some_iff.1 he'
  refine ⟨h1,by rw [h2]; simp,fun i hi => ?_⟩
  have h3:i < es.size := by omega
  intro hb
  have hb':es[i].born = e.born := by
   have := eq_of_beq hb
   omega
  have hn := M.born
  have e1:(es.toList.map (·.born))[i]? = some e.born := by simp [h3,hb']
  have e2:(es.toList.map (·.born))[j]? = some e.born := by simp [h1,h2]
  have := nodup_idx hn e1 e2
  omega
 simp only [goInt,asInt,asIntOf,lwp_bind,lwp_pure]
 have hf2:es.findIdx? (fun x => (x.born:Int) == ((IntKind.i64,(e.born:Int)):IntKind × Int).snd) = some j := hf
 rw [hf2]
 refine ⟨⟨_,hm,trivial⟩,?_⟩
 exact hq _ (M.modify hj (modify_get j) fun e0 he0 => by
  rw [he'] at he0
  cases he0
  obtain ⟨x,h1,h2,_⟩ := M.at he
  rw [hj] at h1
  cases h1
  exact ⟨h2,rfl,rfl⟩)
end
section
variable {X:XP} {Q:Leaf -> LH -> Prop} {h:LH} {kt t et:TypeId} {es:Array MapEntry} {c m:Nat} {ks:List κ} {F:κ -> Int} {kv:Value}
omit [DecidableEq κ] in
theorem t_mapGet {K:Value -> T} {s b:Nat} {ok:Bool} (k:κ) (hkv:kv = enc k) (inj:∀ a b,enc a = enc b -> a = b) (hu:P.underlying t = some (.map kt et)) (hi:(P.info? et).map (fun i => (i.size,i.bytes,i.zero)) = some (s,b,some (.int .i64 0))) (hm:h.get m = some (true,.map es c)) (M:MapK enc es c ks F) (hk:∀ x,x = k \/ x ∈ ks -> FKey P kt (enc x))
  (h1:k ∈ ks -> (K (if ok then .tuple #[.int .i64 (F k),.bool true] else .int .i64 (F k))).wp X P Q h) (h2:k ∉ ks -> (K (if ok then .tuple #[.int .i64 0,.bool false] else .int .i64 0)).wp X P Q h):(T.sem false (Instr.lookup t (.map (some m)) kv ok) K).wp X P Q h := by
 subst hkv
 exact t_sem (A := fun v h' => h' = h.get /\ (K v).wp X P Q h) (lwp_mapGet inj hu hi hm M (hk k (.inl rfl)) (fun x hx => hk x (.inr hx)) (fun hh => ⟨rfl,h1 hh⟩) fun hh => ⟨rfl,h2 hh⟩) (by rintro v h' ⟨rfl,hw⟩; exact hw)
theorem t_mapPut {K:Value -> T} {v:Int} (k:κ) (hkv:kv = enc k) (inj:∀ a b,enc a = enc b -> a = b) (hu:P.underlying t = some (.map kt et)) (hm:h.get m = some (true,.map es c)) (M:MapK enc es c ks F) (hk:∀ x,x = k \/ x ∈ ks -> FKey P kt (enc x))
  (hq:∀ es' c' ks',MapK enc es' c' ks' (updK F k v) -> (∀ x,x ∈ ks' ↔ x = k \/ x ∈ ks) -> (K (.tuple #[])).wp X P Q { h with get := h.get.upd m (true,.map es' c') }):(T.sem false (Sem.bind (Instr.mapUpdate t (.map (some m)) kv (.int .i64 v)) fun _ => pure (.tuple #[])) K).wp X P Q h := by
 subst hkv
 exact t_sem (A := fun w h' => w = .tuple #[] /\ (K (.tuple #[])).wp X P Q { h with get := h' }) (Sem.lwp_bind _ _ (lwp_mapPut inj hu hm M (hk k (.inl rfl)) (fun x hx => hk x (.inr hx)) fun es' c' ks' M' hks => by rw [lwp_pure]; exact ⟨rfl,hq es' c' ks' M' hks⟩)) (by rintro w h' ⟨rfl,hw⟩; exact hw)
theorem t_mapEntry {K:Value -> T} {s b:Nat} (k:κ) (hkv:kv = enc k) (inj:∀ a b,enc a = enc b -> a = b) (hu:P.underlying t = some (.map kt et)) (hi:(P.info? et).map (fun i => (i.size,i.bytes,i.zero)) = some (s,b,some (.int .i64 0))) (hm:h.get m = some (true,.map es c)) (M:MapK enc es c ks F) (hk:∀ x,x = k \/ x ∈ ks -> FKey P kt (enc x)) (h0:k ∉ ks -> F k = 0)
  (hq:∀ es' c' ks' (j:Nat) (e:MapEntry),MapK enc es' c' ks' F -> (∀ x,x ∈ ks' ↔ x = k \/ x ∈ ks) -> es'.toList[j]? = some e -> ks'[j]? = some k -> (K (.tuple #[.int .i64 (F k),.int .i64 (e.born:Int)])).wp X P Q { h with get := h.get.upd m (true,.map es' c') }):(T.sem false (Instr.mapEntry t (.map (some m)) kv) K).wp X P Q h := by
 subst hkv
 exact t_sem (A := fun v h' => (K v).wp X P Q { h with get := h' }) (lwp_mapEntry inj hu hi hm M (hk k (.inl rfl)) (fun x hx => hk x (.inr hx)) h0 fun es' c' ks' j e M' hks he hj => hq es' c' ks' j e M' hks he hj) (fun v h' hw => hw)
theorem t_entryStore {K:Value -> T} {j:Nat} {e:MapEntry} {k:κ} {v:Int} {b:Int} (hb:b = (e.born:Int)) (hm:h.get m = some (true,.map es c)) (M:MapK enc es c ks F) (he:es.toList[j]? = some e) (hj:ks[j]? = some k)
  (hq:∀ es',MapK enc es' c ks (updK F k v) -> (K (.tuple #[])).wp X P Q { h with get := h.get.upd m (true,.map es' c) }):(T.sem false (Sem.bind (Instr.entryStore t (.map (some m)) (.int .i64 b) (.int .i64 v)) fun _ => pure (.tuple #[])) K).wp X P Q h := by
 subst hb
 exact t_sem (A := fun w h' => w = .tuple #[] /\ (K (.tuple #[])).wp X P Q { h with get := h' }) (Sem.lwp_bind _ _ (lwp_entryStore hm M he hj fun es' M' => by rw [lwp_pure]; exact ⟨rfl,hq es' M'⟩)) (by rintro w h' ⟨rfl,hw⟩; exact hw)
end
end Go.TM.Rv
end
section
namespace Go.TM
open Go Go.Conc
section
variable {P:Program} {X:XP} {Q:Leaf -> LH -> Prop}
end
def vis (h₀:Cells) (p:Option Addr) (h:Cells):Cells := fun r => if (h₀ r).isNone && decide (p.map (·.block) ≠ some r) then h r else none
theorem vis_some {h₀ h:Cells} {p:Option Addr} {r:Nat} {y:Bool × Obj}:vis h₀ p h r = some y ↔ (h₀ r = none /\ p.map (·.block) ≠ some r) /\ h r = some y := by
 unfold vis
 by_cases e:((h₀ r).isNone && decide (p.map (·.block) ≠ some r)) = true
 ·rw [if_pos e]
  simp only [Bool.and_eq_true,decide_eq_true_eq,Option.isNone_iff_eq_none] at e
  simp [e.1,e.2]
 ·rw [if_neg e]
  simp only [Bool.and_eq_true,decide_eq_true_eq,Option.isNone_iff_eq_none] at e
  constructor
  ·intro h; cases h
  ·intro h; exact absurd h.1 e
theorem vis_up {h₀ h1 h2:Cells} {p p':Option Addr} (hk:∀ r y,(∀ a,p = some a -> a.block ≠ r) -> h1 r = some y -> h2 r = some y) (hp:p' = p \/ ∃ r,p' = some ⟨r,0,none⟩ /\ h1 r = none):(vis h₀ p h1).le (vis h₀ p' h2) := by
 intro r y hy
 obtain ⟨⟨h3,h4⟩,h5⟩ := vis_some.1 hy
 refine vis_some.2 ⟨⟨h3,?_⟩,hk r y (fun a ha e => h4 (by rw [ha]; simp [e])) h5⟩
 rcases hp with rfl | ⟨r',rfl,hr'⟩
 ·exact h4
 ·intro e; simp at e; rw [e,h5] at hr'; cases hr'
theorem vis_le {h₀ h1 h2:Cells} {p:Option Addr} (hle:h1.le h2):(vis h₀ p h1).le (vis h₀ p h2) := vis_up (fun r y _ hy => hle r y hy) (.inl rfl)
theorem Rows.mono {α:Type} {Enc Enc':α -> List Value -> Prop} (he:∀ x ws,Enc x ws -> Enc' x ws) {vs:List Value} {l:List α} (r:Rows Enc vs l):Rows Enc' vs l := by
 induction r with
 | nil => exact .nil
 | snoc r h ih => exact ih.snoc (he _ _ h)
theorem Growing.mono {α:Type} {Enc Enc':α -> List Value -> Prop} (he:∀ x ws,Enc x ws -> Enc' x ws) {el:TypeId} {k:Nat} {h₀ h:Cells} {p:Option Addr} {n c:Nat} {l:List α} (g:Growing Enc el k h₀ h p n c l):Growing Enc' el k h₀ h p n c l := by
 obtain ⟨vs,h1,h2⟩ := g.row
 exact ⟨⟨vs,h1,h2.mono he⟩,g.new⟩
theorem Growing.base {α:Type} {Enc:α -> List Value -> Prop} {el:TypeId} {k:Nat} {h₀ h₁ h:Cells} {p:Option Addr} {n c:Nat} {l:List α} (g:Growing Enc el k h₀ h p n c l) (hb:∀ r,h₀ r = none -> h₁ r = none):Growing Enc el k h₁ h p n c l := ⟨g.row,fun a ha => hb _ (g.new a ha)⟩
theorem IntE.told {h:Cells}:ToldE IntE IntEnc 1 h := by
 rintro a x h1
 refine ⟨_,rfl,rfl,fun j w hj => ?_,fun w hw => by simp at hw; subst hw; rfl⟩
 match j,hj with
 | 0,hj => cases hj; exact h1
 | j + 1,hj => simp at hj
theorem OwnRow.vis {el:TypeId} {k:Nat} {h₀ h h3:Cells} {p q:Option Addr} {n c:Nat} {vs:List Value} (o:OwnRow el k h q n c vs) (hn:NewIn h3 q) (h03:h₀.le h3) (hp:∀ a,p = some a -> ∃ y,h3 a.block = some y):OwnRow el k (Go.TM.vis h₀ p h) q n c vs := by
 obtain ⟨h1,h2 | ⟨r,cs,e1,e2,e3,e4,e5⟩⟩ := o
 ·exact ⟨h1,.inl h2⟩
 ·subst e1
  have h3r := hn _ rfl
  refine ⟨h1,.inr ⟨r,cs,rfl,vis_some.2 ⟨⟨?_,?_⟩,e2⟩,e3,e4,e5⟩⟩
  ·cases hx:h₀ r with
   | none => rfl
   | some x => rw [h03 _ _ hx] at h3r; cases h3r
  ·intro e
   cases hpp:p with
   | none => rw [hpp] at e; cases e
   | some a =>
    rw [hpp] at e
    simp at e
    obtain ⟨y,hy⟩ := hp a hpp
    rw [e] at hy
    rw [hy] at h3r; cases h3r
section
variable {P:Program} {X:XP} {Q:Leaf -> LH -> Prop}
theorem t_growP {α:Type} {Enc:α -> List Value -> Prop} {h h₀:LH} {k:Value -> T} {ts:Array TypeId} {ty sT xT el xe:TypeId} {s by_:Nat} {z:Value} {p:Option Addr} {n c mc:Nat} {b:Addr} {l:List α} {x:α} {ws:List Value} (h0:ts[0]? = some sT) (h1:ts[1]? = some xT) (hu:P.underlying sT = some (.slice el)) (hx:P.underlying xT = some (.slice xe))
  (hi:(P.info? el).map (fun i => (i.size,i.bytes,i.zero)) = some (s,by_,some z)) (hsz:z.cells.size = s) (hb:by_ <= 1024) (hn:n + 1 <= 2 ^ 30) (g:Growing Enc el s h₀.get h.get p n c l) (hle:h₀.le h) (he:Enc x ws) (hl:ws.length = s) (hc:∀ (j:Nat) v,ws[j]? = some v -> h.get.cell? (b.add j) = some v) (one:∀ v ∈ ws,isOne v = true)
  (hk:∀ p' c' h',h₀.le h' -> (∀ r y,(∀ a,p = some a -> a.block ≠ r) -> h.get r = some y -> h'.get r = some y) -> (p' = p \/ ∃ r,p' = some ⟨r,0,none⟩ /\ h.get r = none) -> Growing Enc el s h₀.get h'.get p' (n + 1) c' (l ++ [x]) -> (k (.slice p' (n + 1) c')).wp X P Q h'):(T.sem false (Builtin.append_ ts ty #[.slice p n c,.slice (some b) 1 mc]) k).wp X P Q h := by
 obtain ⟨vs,o,r⟩ := g.row
 refine t_append h0 h1 hu hx hi hsz hb hn o (by rw [hl,Nat.one_mul]) hc one (by omega) fun p' c' h' a b c => ?_
 obtain ⟨l1,l2⟩ := after_append hle.1 g.new b c
 exact hk p' c' _ ⟨l1,hle.2⟩ (fun r y hr hy => b r y hy hr) c ⟨⟨vs ++ ws,a,.snoc r he⟩,l2⟩
end
end Go.TM
end
section
namespace Go.Proofs.YtgljffachdhigaaGreatDoor
open Go Go.TM Go.Proofs
set_option linter.unusedVariables false
set_option maxRecDepth 100000
variable {X:XP} {h:LH} {A:Value -> LH -> Prop}
noncomputable def n3147 (lp:Option Addr) (ln lc:Nat) (most:Int) (so:Value):T := .new 111 (Value.cells so) fun r => .loop [.slice none 0 0,.bool false,.int .i64 0] (fun vs => .popS vs fun a n c vs => .popB vs fun b vs => .popI .i64 vs fun n_1 vs => .unNil vs (bif decide (n_1 < IntKind.wrap .i64 (most + 1)) then .new 30 #[.slice none 0 0] fun r_1 => .call false 92 #[.agg #[.slice lp ln lc],.int .i64 n_1,.func (Fn.func 93) #[] #[.pointer (some { block := r_1,off := 0 }),.pointer (some { block := r,off := 0 })]] fun v => .unB v fun b_1 => bif b_1 then .loadS { block := r_1,off := 0 } fun p n c => .leaf (.retn [.slice p n c,.bool true,.int .i64 n_1]) else .leaf (.again [.slice a n c,.bool b,.int .i64 (IntKind.wrap .i64 (n_1 + 1))]) else .leaf (.brk [.slice a n c,.bool b,.int .i64 n_1]))) (fun vs => .popS vs fun a n c vs => .popB vs fun b vs => .popI .i64 vs fun n vs => .unNil vs (.leaf (.ret (.tuple #[.slice none 0 0,.bool false])))) (fun vs => .popS vs fun a n c vs => .popB vs fun b vs => .popI .i64 vs fun n_1 vs => .unNil vs (.leaf (.ret (.tuple #[.slice a n c,.bool b])))) fun x x_1 => .fail
theorem w3147 (lp:Option Addr) (ln lc:Nat) (most:Int) (so:Value) (hX:XOK X) (hw:(n3147 lp ln lc most so).wp X Tryz.prog (retQ A) h):FWK X Tryz.prog .normal 47 #[.slice lp ln lc,.int .i64 most,so] h A := fwk_neat (priv := []) (loops := [{ id := 0,slots := [(6,.slice),(7,.bool),(12,.int .i64)],ro := [],outs := [] }]) (joins := []) (fd := Tryz.f47) (by kernel_rfl) (by simp) (by kernel_rfl) (by kernel_rfl) hX hw
noncomputable def n3171 (sp:Option Addr) (sn sc:Nat):T := .sem false (Sem.bind (eqGuard BinOp.eql 33 (Operand.tmp 3) (Operand.const (.slice none 0 0)) (.slice sp sn sc) (.slice none 0 0)) fun __r => binOp BinOp.eql 33 (.slice sp sn sc) (.slice none 0 0)) fun v => .unB v fun b => bif b then .leaf (.ret (.slice none 0 0)) else .sem false (Instr.buildSlice 33 0 #[]) fun v => .unS v fun a n c => .sem false (Builtin.append_ #[33,33] 33 #[.slice a n c,.slice sp sn sc]) fun v => .unS v fun a n c => .leaf (.ret (.slice a n c))
theorem w3171 (sp:Option Addr) (sn sc:Nat) (hX:XOK X) (hw:(n3171 sp sn sc).wp X Tryz.prog (retQ A) h):FWK X Tryz.prog .normal 90 #[.slice sp sn sc] h A := fwk_neat (priv := []) (loops := []) (joins := []) (fd := Tryz.f90) (by kernel_rfl) (by simp) (by kernel_rfl) (by kernel_rfl) hX hw
noncomputable def n3172 (c_0:ByteArray) (c_1:Int) (c_2p:Option Addr) (c_2n c_2c:Nat) (c_3p:Option Addr) (c_3n c_3c:Nat):T := .sem false (Instr.makeSlice 75 (.int .i64 0) (.int .i64 (↑c_2n:Int))) fun v => .unS v fun a n c => .loop [.slice a n c,.int .i64 0] (fun vs => .popS vs fun a n c vs => .popI .i64 vs fun n_1 vs => .unNil vs (bif decide (n_1 < (↑c_2n:Int)) then .need (0 <= n_1 /\ n_1 < (↑c_2n:Int)) (.someA c_2p fun a_1 => .loadS (a_1.add (n_1.toNat * 1)) fun p n_2 c_2 => .call false 128 #[.slice p n_2 c_2] fun v => .unS v fun a_2 n_3 c_3 => .sem false (Instr.buildSlice 75 1 #[(0,.slice a_2 n_3 c_3)]) fun v => .unS v fun a_3 n_4 c_4 => .sem false (Builtin.append_ #[75,75] 75 #[.slice a n c,.slice a_3 n_4 c_4]) fun v => .unS v fun a n c => .leaf (.again [.slice a n c,.int .i64 (IntKind.wrap .i64 (n_1 + 1))])) else .leaf (.brk [.slice a n c,.int .i64 n_1]))) (fun vs => .popS vs fun a n c vs => .popI .i64 vs fun n_1 vs => .unNil vs (.call false 128 #[.slice c_3p c_3n c_3c] fun v => .unS v fun a_1 n_2 c_2 => .leaf (.ret (.agg #[.string c_0,.int .i64 c_1,.slice a n c,.slice a_1 n_2 c_2])))) (fun vs => .popS vs fun a n c vs => .popI .i64 vs fun n vs => .unNil vs (.leaf (.ret (.agg #[.string { data := #[] },.int .i64 0,.slice none 0 0,.slice none 0 0])))) fun x x_1 => .fail
theorem w3172 (c_0:ByteArray) (c_1:Int) (c_2p:Option Addr) (c_2n c_2c:Nat) (c_3p:Option Addr) (c_3n c_3c:Nat) (hX:XOK X) (hw:(n3172 c_0 c_1 c_2p c_2n c_2c c_3p c_3n c_3c).wp X Tryz.prog (retQ A) h):FWK X Tryz.prog .normal 91 #[.agg #[.string c_0,.int .i64 c_1,.slice c_2p c_2n c_2c,.slice c_3p c_3n c_3c]] h A := fwk_neat (priv := [1,2]) (loops := [{ id := 0,slots := [(3,.slice),(13,.int .i64)],ro := [1,2],outs := [] }]) (joins := []) (fd := Tryz.f91) (by kernel_rfl) (by simp) (by kernel_rfl) (by kernel_rfl) hX hw
noncomputable def n3173 (lp:Option Addr) (ln lc:Nat) (many:Int) (take:Value):T := .new 157 #[.slice lp ln lc] fun r => .new 3 #[.int .i64 many] fun r_1 => .new 111 (Value.cells take) fun r_2 => .new 55 #[Value.nilFunc] fun r_3 => .store (Addr.add { block := r_3,off := 0 } 0) (.func (Fn.func 129) #[] #[.pointer (some { block := r_1,off := 0 }),.pointer (some { block := r_2,off := 0 }),.pointer (some { block := r,off := 0 }),.pointer (some { block := r_3,off := 0 })]) (.loadV { block := r_3,off := 0 } fun v => .callv false v #[.slice none 0 0,.int .i64 0] fun v => .unB v fun b => .leaf (.ret (.bool b)))
theorem w3173 (lp:Option Addr) (ln lc:Nat) (many:Int) (take:Value) (hX:XOK X) (hw:(n3173 lp ln lc many take).wp X Tryz.prog (retQ A) h):FWK X Tryz.prog .normal 92 #[.agg #[.slice lp ln lc],.int .i64 many,take] h A := fwk_neat (priv := []) (loops := []) (joins := []) (fd := Tryz.f92) (by kernel_rfl) (by simp) (by kernel_rfl) (by kernel_rfl) hX hw
noncomputable def n3174 (xp:Option Addr) (xn xc:Nat) (z0 z1:Addr):T := .store (z0.add 0) (.slice xp xn xc) (.loadV z1 fun v => .callv false v #[.slice xp xn xc] fun v => .unB v fun b => .leaf (.ret (.bool b)))
theorem w3174 (xp:Option Addr) (xn xc:Nat) (z0 z1:Addr) (hX:XOK X) (hw:(n3174 xp xn xc z0 z1).wp X Tryz.prog (retQ A) h):FWK X Tryz.prog .normal 93 #[.slice xp xn xc,.pointer (some z0),.pointer (some z1)] h A := fwk_neat (priv := []) (loops := []) (joins := []) (fd := Tryz.f93) (by kernel_rfl) (by simp) (by kernel_rfl) (by kernel_rfl) hX hw
noncomputable def n3195 (xp:Option Addr) (xn xc:Nat) (from0:Int) (z0 z1 z2 z3:Addr):T := .loadI .i64 z0 fun n => bif (↑xn:Int) == n then .loadV z1 fun v => .call false 128 #[.slice xp xn xc] fun v_1 => .unS v_1 fun a n c => .loadV z1 fun v_2 => .need (AV.val v_2 = AV.val v) (.callv false v #[.slice a n c] fun v => .unB v fun b => .leaf (.ret (.bool b))) else .loop [.bool false,.int .i64 from0] (fun vs => .popB vs fun b vs => .popI .i64 vs fun n vs => .unNil vs (.loadS (z2.add 0) fun p n_1 c => bif decide (n < (↑n_1:Int)) then .loadV z3 fun v => .loadS (z2.add 0) fun p n_2 c => .need (0 <= n /\ n < (↑n_2:Int)) (.someA p fun a => .loadI .i64 (a.add (n.toNat * 1)) fun n_3 => .sem false (Instr.buildSlice 30 1 #[(0,.int .i64 n_3)]) fun v_1 => .unS v_1 fun a_1 n_4 c_1 => .nd (.int .i64 (IntKind.wrap .i64 (n + 1))) (.nd (.int .i64 n) (.need (0 <= n /\ n < (↑n_2:Int)) (.someA p fun a_2 => .need (AV.val (.pointer (some (a_2.add (n.toNat * 1)))) = AV.val (.pointer (some (a.add (n.toNat * 1))))) (.nd (.int .i64 n) (.loadS (z2.add 0) fun p_1 n_5 c_2 => .need (AV.val (.slice p_1 n_5 c_2) = AV.val (.slice p n_2 c)) (.nd (.pointer (some (z2.add 0))) (.nd (.slice xp xn xc) (.loadV z3 fun v_2 => .need (AV.val v_2 = AV.val v) (.sem false (Builtin.append_ #[30,30] 30 #[.slice xp xn xc,.slice a_1 n_4 c_1]) fun v_3 => .unS v_3 fun a_3 n_6 c_3 => .nd (.int .i64 (IntKind.wrap .i64 (n + 1))) (.nd (.int .i64 n) (.need (0 <= n /\ n < (↑n_2:Int)) (.someA p fun a_4 => .need (AV.val (.pointer (some (a_4.add (n.toNat * 1)))) = AV.val (.pointer (some (a.add (n.toNat * 1))))) (.nd (.int .i64 n) (.loadS (z2.add 0) fun p_2 n_7 c_4 => .need (AV.val (.slice p_2 n_7 c_4) = AV.val (.slice p n_2 c)) (.nd (.pointer (some (z2.add 0))) (.loadV z3 fun v_4 => .need (AV.val v_4 = AV.val v) (.callv false v #[.slice a_3 n_6 c_3,.int .i64 (IntKind.wrap .i64 (n + 1))] fun v => .unB v fun b_1 => .nd (.int .i64 n) (.need (0 <= n /\ n < (↑n_2:Int)) (.someA p fun a_5 => .need (AV.val (.pointer (some (a_5.add (n.toNat * 1)))) = AV.val (.pointer (some (a.add (n.toNat * 1))))) (.nd (.int .i64 n) (.loadS (z2.add 0) fun p_3 n_8 c_5 => .need (AV.val (.slice p_3 n_8 c_5) = AV.val (.slice p n_2 c)) (.nd (.pointer (some (z2.add 0))) (bif b_1 then .leaf (.retn [.bool true,.int .i64 n]) else .leaf (.again [.bool b,.int .i64 (IntKind.wrap .i64 (n + 1))]))))))))))))))))))))))))) else .leaf (.brk [.bool b,.int .i64 n]))) (fun vs => .popB vs fun b vs => .popI .i64 vs fun n vs => .unNil vs (.leaf (.ret (.bool false)))) (fun vs => .popB vs fun b vs => .popI .i64 vs fun n vs => .unNil vs (.leaf (.ret (.bool b)))) fun x x_1 => .fail
theorem w3195 (xp:Option Addr) (xn xc:Nat) (from0:Int) (z0 z1 z2 z3:Addr) (hX:XOK X) (hw:(n3195 xp xn xc from0 z0 z1 z2 z3).wp X Tryz.prog (retQ A) h):FWK X Tryz.prog .normal 129 #[.slice xp xn xc,.int .i64 from0,.pointer (some z0),.pointer (some z1),.pointer (some z2),.pointer (some z3)] h A := fwk_neat (priv := []) (loops := [{ id := 0,slots := [(8,.bool),(9,.int .i64)],ro := [],outs := [] }]) (joins := []) (fd := Tryz.f129) (by kernel_rfl) (by simp) (by kernel_rfl) (by kernel_rfl) hX hw
end Go.Proofs.YtgljffachdhigaaGreatDoor
end
section
namespace Go.Proofs.YtgljffachdhigaaGreatDoor
open Go Go.TM Go.Proofs Go.TM.Rv
attribute [local irreducible] T.wp CV FWK
theorem c3254 {h:LH} (c:UInt8):Pu Tryz.prog 208 #[.int .u8 (c.toNat:Int)] h (.bool (!(letterB c || digitB c))) := by
 refine w3254 _ X0_ok ?_
 unfold n3254
 unfold letterB digitB
 refine t_if (fun e1 => ?_) (fun e1 => ?_)
 ·refine t_if (fun e2 => ?_) (fun e2 => ?_) <;> refine t_ret ⟨?_,rfl⟩
  ·have h1:¬ 97 <= c.toNat := by omega
   have h2:¬ 48 <= c.toNat := by omega
   simp [h1,h2]
  ·have h1:¬ 97 <= c.toNat := by omega
   have h2:48 <= c.toNat := by omega
   by_cases h3:c.toNat <= 57
   ·have:¬ (c.toNat:Int) > 57 := by omega
    simp [h1,h2,h3,this]
   ·have:(c.toNat:Int) > 57 := by omega
    simp [h1,h2,h3,this]
 ·have h1:97 <= c.toNat := by omega
  refine t_if (fun e2 => ?_) (fun e2 => ?_)
  ·refine t_if (fun e3 => by omega) (fun e3 => ?_)
   refine t_ret ⟨?_,rfl⟩
   have h2:¬ c.toNat <= 122 := by omega
   have h3:¬ c.toNat <= 57 := by omega
   have:(c.toNat:Int) > 57 := by omega
   simp [h2,h3,this]
  ·refine t_ret ⟨?_,rfl⟩
   have h2:c.toNat <= 122 := by omega
   simp [h1,h2]
theorem c3253 {h:LH} {s:ByteArray} (hs:NameOk s):Gr Tryz.prog 206 #[.string s] h fun r _ => r = .bool true := by
 refine w3253 _ X0_ok ?_
 unfold n3253
 have hsz := hs.size
 have h0:0 < s.data.size := hsz.1
 have hc := Array.getElem?_eq_getElem (xs := s.data) (i := 0) h0
 generalize s.data[0] = c at hc
 have hl:letterB c = true := (hs.all 0 c hc).resolve_right (fun hh => hh.2 rfl)
 unfold letterB at hl
 simp only [Bool.and_eq_true,decide_eq_true_eq] at hl
 refine t_lenStr und9 ?_
 refine gZ ?_
 refine t_pu (c3157 _ _ _) ?_
 have e1:isIn (s.size:Int) 1 10 = true := by unfold isIn; simp; omega
 rw [e1]
 refine gZ ?_
 refine t_cond (fun e => by cases e) (fun _ => ?_)
 refine t_indexS (i := 0) und9 hc ?_
 refine gZ ?_
 refine t_if (fun e => by omega) (fun _ => ?_)
 refine t_indexS (i := 0) und9 hc ?_
 refine gZ ?_
 refine t_if (fun e => by omega) (fun _ => ?_)
 refine t_bytes und9 und1275 undU8 (by omega) fun r cap h1 le1 hsl => ?_
 refine gZ ?_
 refine t_pu (c3239 hsl (g := fun c => !(letterB c || digitB c)) (fun x => ?_)) ?_
 ·exact CV.mono (cv_fw X0_ok (by rfl) (c3254 x)) (by rintro v h' ⟨rfl,rfl⟩; exact ⟨rfl,rfl⟩)
 have hany:(s.data.toList.any fun c => !(letterB c || digitB c)) = false := by
  rw [List.any_eq_false]
  intro c hc
  obtain ⟨i,hi⟩ := List.mem_iff_getElem?.1 hc
  rcases hs.all i c (by simpa using hi) with h1 | ⟨h1,_⟩ <;> simp [h1]
 rw [hany]
 refine gZ ?_
 exact t_ret ⟨le1,rfl⟩
theorem und1286:Tryz.prog.underlying 281 = some (.map 9 3) := by kernel_rfl
theorem keyS (s:ByteArray):FKey Tryz.prog 9 (.string s) := .inl (.inr (.inr ⟨und9,s,rfl⟩))
theorem str_inj:∀ a b:ByteArray,Value.string a = .string b -> a = b := fun a b h => by cases h; rfl
def NamesR (h:Cells) (m:Nat) (l:List ByteArray):Prop := ∃ es c ks F,h m = some (true,.map es c) /\ MapK Value.string es c ks F /\ ∀ s ∈ ks,s ∈ l
theorem NamesR.le {h h':Cells} (hl:h.le h') {m:Nat} {l:List ByteArray} (r:NamesR h m l):NamesR h' m l := by
 obtain ⟨es,c,ks,F,h1,h2⟩ := r
 exact ⟨es,c,ks,F,hl _ _ h1,h2⟩
theorem c3251 {h₀ h:LH} {m:Nat} {l:List ByteArray} (hle:h₀.le h) (hm0:h₀.get m = none) (hm:NamesR h.get m l) {s:ByteArray} (hs:NameOk s) (hn:s ∉ l) (n:Int) :
  FW X0 Tryz.prog 204 #[.map (some m),.string s,.int .i64 n] h fun r h' => r = .int .i64 0 /\ h₀.le h' /\ NamesR h'.get m (l ++ [s]) := by
 refine w3251 _ _ _ X0_ok ?_
 unfold n3251
 refine t_gr (c3253 hs) ?_
 rintro _ h1 le1 rfl
 obtain ⟨es,c,ks,F,h2,M,hks⟩ := hm.le le1.1
 have le01 := LH.le_trans hle le1
 refine gZ ?_
 refine t_cond (fun e => by cases e) (fun _ => ?_)
 refine t_mapGet (enc := Value.string) s rfl str_inj und1286 inf3 h2 M (fun x _ => keyS x) (fun hk => absurd (hks s hk) hn) fun _ => ?_
 simp only [if_true]
 refine gZ ?_
 refine t_cond (fun e => by cases e) (fun _ => ?_)
 refine t_mapPut (enc := Value.string) s rfl str_inj und1286 h2 M (fun x _ => keyS x) fun es' c' ks' M' hk' => ?_
 have le2 := le_updNew0 (x := (true,.map es' c')) le01 hm0
 refine t_ret ⟨rfl,le2,es',c',ks',_,Cells.upd_self _ _ _,M',fun x hx => ?_⟩
 rw [List.mem_append,List.mem_singleton]
 rcases (hk' x).1 hx with rfl | hx
 ·exact .inr rfl
 ·exact .inl (hks x hx)
theorem take_nd {l:List ByteArray} (hd:l.Nodup) {i:Nat} {s:ByteArray} (hx:l[i]? = some s):s ∉ l.take i := by
 intro hm
 obtain ⟨j,hj⟩ := List.mem_iff_getElem?.1 hm
 have hjl := (List.getElem?_eq_some_iff.1 hj).1
 rw [List.length_take] at hjl
 rw [List.getElem?_take_of_lt (by omega)] at hj
 have := nodup_idx hd hx hj
 omega
theorem take_snoc {l:List ByteArray} {i:Nat} {s:ByteArray} (hx:l[i]? = some s):l.take (i + 1) = l.take i ++ [s] := by
 rw [List.take_add_one,hx]; rfl
theorem c3248 {h:LH} {f:BookC} {b:RvBook} (hr:BookR h.get f b) (ok:BookOk b):Gr Tryz.prog 201 #[bookV f] h fun r _ => r = .int .i64 0 := by
 refine w3248 _ _ _ _ _ _ X0_ok ?_
 unfold n3248
 have hn0 := hr.rights.1
 have hb0 := hr.rights.2.1
 have hmany := ok.rights
 refine t_if (fun e => by omega) (fun _ => ?_)
 refine t_makeMap fun m hm => ?_
 refine gZ ?_
 refine t_loop (fun mm vs h' => h.le h' /\ ∃ i:Nat,vs = [.int .i64 0,.int .i64 i] /\ i <= f.n0 /\ mm = f.n0 - i /\ NamesR h'.get m (b.rights.take i))
  ⟨LH.upd_le hm,0,rfl,Nat.zero_le _,rfl,#[],0,[],fun _ => 0,Cells.upd_self _ _ _,MapK.nil,fun s hs => by cases hs⟩ ?_
 rintro Y mm vs h1 hY ⟨le1,i,rfl,hi,rfl,hme⟩
 refine gZ ?_
 refine t_if (fun e1 => ?_) (fun e1 => ?_)
 ·obtain ⟨s,a,hx,ha,e2⟩ := hr.rights.at (i := i) (by omega)
  have hin:0 <= (i:Int) /\ (i:Int) < (f.n0:Int) := by omega
  unfold StrE at e2
  have e2' := Cells.cell?_le le1.1 e2
  have hsm := List.mem_of_getElem? hx
  refine gZ ?_
  repeat ((first | refine t_loadStr (by assumption) ?_ | refine t_loadV (by assumption) ?_ | refine gL0 (by assumption) ?_); refine gZ ?_)
  refine t_call (FW.top (c3251 le1 hm hme (ok.names s hsm) (take_nd ok.fresh hx) _)) ?_
  rintro _ h2 ⟨rfl,le2,hme2⟩
  refine gZ ?_
  refine t_cond (fun e => by cases e) (fun _ => ?_)
  refine t_again (hY (f.n0 - (i + 1)) _ _ (by omega) ⟨le2,i + 1,?_,by omega,rfl,by rw [take_snoc hx]; exact hme2⟩)
  rw [wrap_id (by omega) (by omega)]; rfl
 ·refine gZ ?_
  exact t_ret ⟨le1,rfl⟩
theorem c3252 {h:LH} {f:BookC} {b:RvBook} (hr:BookR h.get f b) (h6:b.rights.length <= 6) {p:Option Addr} {n c:Nat} {gs:List (List Int)} (hg:Sl LsE 1 h.get p n gs)
  (hgs:gs.length <= 3 /\ ∀ g ∈ gs,g.length <= 3 /\ g.Pairwise (· < ·) /\ ∀ v ∈ g,0 <= v /\ v < (b.rights.length:Int)):Pu Tryz.prog 205 #[bookV f,.slice p n c] h (.int .i64 0) := by
 refine w3252 _ _ _ _ _ _ _ _ _ X0_ok ?_
 unfold n3252
 have hn := hg.1
 have hb := hg.2.1
 have hn0 := hr.rights.1
 refine t_if (fun e => by omega) (fun _ => ?_)
 refine t_loop (fun mm vs h' => h = h' /\ ∃ i:Nat,vs = [.int .i64 0,.int .i64 i] /\ i <= n /\ mm = n - i) ⟨rfl,0,rfl,Nat.zero_le _,rfl⟩ ?_
 rintro Y mm vs _ hY ⟨rfl,i,rfl,hi,rfl⟩
 refine gZ ?_
 refine t_if (fun e1 => ?_) (fun e1 => ?_)
 ·obtain ⟨g,a,hx,ha,q,m,k,e2,e3⟩ := hg.at (i := i) (by omega)
  have hin:0 <= (i:Int) /\ (i:Int) < (n:Int) := by omega
  obtain ⟨g1,g2,g3⟩ := hgs.2 g (List.mem_of_getElem? hx)
  have hm := e3.1
  refine gZ ?_
  refine t_if (fun e => by omega) (fun _ => ?_)
  refine t_pu (c3153 e3 (b := (f.n0:Int)) (by omega) g2 (fun v hv => by rw [hn0]; exact g3 v hv)) ?_
  refine gZ ?_
  refine t_cond (fun e => by cases e) (fun _ => ?_)
  refine t_again (hY (n - (i + 1)) _ _ (by omega) ⟨rfl,i + 1,?_,by omega,rfl⟩)
  rw [wrap_id (by omega) (by omega)]; rfl
 ·refine gZ ?_
  exact t_ret ⟨rfl,rfl⟩
theorem c3249 {h:LH} {f:BookC} {b:RvBook} (hr:BookR h.get f b) (ok:BookOk b):Gr Tryz.prog 202 #[bookV f] h fun r _ => r = .int .i64 0 := by
 refine w3249 _ _ _ _ _ _ X0_ok ?_
 unfold n3249
 have hn0 := hr.rights.1
 have hn1 := hr.cases.1
 have hb0 := hr.rights.2.1
 have hb1 := hr.cases.2.1
 have h6 := ok.rights
 have h5 := ok.cases
 refine t_if (fun e => by omega) (fun _ => ?_)
 refine t_makeMap fun m hm => ?_
 refine gZ ?_
 refine t_loop (fun mm vs h' => h.le h' /\ ∃ i:Nat,vs = [.int .i64 0,.int .i64 i] /\ i <= f.n1 /\ mm = f.n1 - i /\ NamesR h'.get m ((b.cases.map (·.name)).take i))
  ⟨LH.upd_le hm,0,rfl,Nat.zero_le _,rfl,#[],0,[],fun _ => 0,Cells.upd_self _ _ _,MapK.nil,fun s hs => by cases hs⟩ ?_
 rintro Y mm vs h1 hY ⟨le1,i,rfl,hi,rfl,hme⟩
 refine gZ ?_
 refine t_if (fun e1 => ?_) (fun e1 => ?_)
 ·obtain ⟨c,a,hx,ha,e2,e3,⟨q,n,k,e4,e5⟩,q',n',k',e6,e7⟩ := hr.cases.at (i := i) (by omega)
  have e2' := Cells.cell?_le le1.1 e2
  have e3' := Cells.cell?_le le1.1 e3
  have e4' := Cells.cell?_le le1.1 e4
  have e6' := Cells.cell?_le le1.1 e6
  have hin:0 <= (i:Int) /\ (i:Int) < (f.n1:Int) := by omega
  have hcm := List.mem_of_getElem? hx
  have hag := ok.against c hcm
  have haf := ok.after c hcm
  have hxn:(b.cases.map (·.name))[i]? = some c.name := by rw [List.getElem?_map,hx]; rfl
  refine gZ ?_
  repeat ((first | refine t_loadStr (by assumption) ?_ | refine t_loadV (by assumption) ?_ | refine gL0 (by assumption) ?_); refine gZ ?_)
  refine t_call (FW.top (c3251 le1 hm hme (ok.cnames c hcm) (take_nd ok.cfresh hxn) _)) ?_
  rintro _ h2 ⟨rfl,le2,hme2⟩
  refine gZ ?_
  refine t_cond (fun e => by cases e) (fun _ => ?_)
  rw [wrap_id (n := (f.n0:Int) - 1) (by omega) (by omega)]
  refine t_pu (c3157 _ _ _) ?_
  rw [isIn_true (by omega)]
  refine gZ ?_
  refine t_cond (fun e => by cases e) (fun _ => ?_)
  refine t_pu (c3252 (hr.le le2.1) h6 (e5.le LsE.grow le2.1) (ok.grounds c hcm)) ?_
  refine gZ ?_
  refine t_cond (fun e => by cases e) (fun _ => ?_)
  refine t_pu (c3153 (e7.le IntE.grow le2.1) (b := (f.n1:Int)) (by omega) haf.1 (fun v hv => by rw [hn1]; exact haf.2 v hv)) ?_
  refine gZ ?_
  refine t_cond (fun e => by cases e) (fun _ => ?_)
  refine t_again (hY (f.n1 - (i + 1)) _ _ (by omega) ⟨le2,i + 1,?_,by omega,rfl,by rw [take_snoc hxn]; exact hme2⟩)
  rw [wrap_id (by omega) (by omega)]; rfl
 ·refine gZ ?_
  exact t_ret ⟨le1,rfl⟩
end Go.Proofs.YtgljffachdhigaaGreatDoor
end
