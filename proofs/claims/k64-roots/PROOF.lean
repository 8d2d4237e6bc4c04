import PyProof.Rows.All
import HandS.ForMost
import HandS.Wide
import HandS.WideBits
import HandS.TupAny
import HandS.TupMul
import HandS.TupLe
import HandS.Style
import HandS.NoneIn
import HandS.Rev
import HandS.RevTup
import HandS.Conv
import HandS.Deep
import HandS.Gcd
import HandS.IsInst
import HandS.Zip
import HandS.Flow
import KE.KDictKeyed
import KE.KeyNested
import PyProof.ListMulRoad
import PyProof.FactsAll.tuple_2
import KE.GoesEnum
import HandS.Codes
import HandS.Defaults
import KE.KDictPairs
import HandS.Head0
import HandS.Head1
import HandS.Head2
import HandS.HeadEnd
import HandS.HeadHook1
import HandS.HeadHook2
import KE.SortData
import KE.DataCmp
import HandS.Head3
import PySem.Challenge.RW_twiceround_k64_whole_roots_in_the_order
set_option Elab.async false
set_option linter.all false
set_option maxRecDepth 100000
set_option maxHeartbeats 4000000
/-! Data of the evaluator, its heap, the functions that it runs on (written by recursors: the kernel runs them). -/
noncomputable section
namespace Pv
open PySem PySem.Spec PyProof.Rows L2

inductive At where
  | unk | non | bl (b : Bool) | str (x : List Nat)
/-- nat n, neg n (that is -(n + 1)), a tuple without lists in it (p: a bound of its depth), another tuple, a list of the heap, others -/
inductive D where
  | nat (n : Nat) | neg (n : Nat) | tup (p : Nat) (ds : List D) | tpr (ds : List D) | ref (j : Nat) | oth (a : At)
/-- what stands in the evaluator's heap: a list, a dict by its keys and values, the source of draws -/
inductive LO where
  | lst (ds : List D) | dct (ks vs : List D) | tin
structure Hv where
  n : Nat
  m : List (Nat × LO)
abbrev KD := D → Hv → Bool
abbrev ME := List D → Hv → KD → Bool
abbrev MEs := List D → Hv → (List D → Hv → Bool) → Bool
abbrev MT := List D → Hv → (Bool → Hv → Bool) → Bool
structure KS where
  nx : List D → Hv → Bool
  rt : KD
  bk : List D → Hv → Bool
  ct : List D → Hv → Bool
abbrev MS := List D → Hv → KS → Bool
abbrev MG := D → List D → (List D → Bool) → Bool
abbrev MF := List D → Hv → KD → Bool

/-! ### small machinery -/
def fN (n : Nat) (k : Nat → Bool) : Bool := @Nat.rec (fun _ => Bool) (k 0) (fun m _ => k (Nat.succ m)) n
theorem fN_eq (n : Nat) (k : Nat → Bool) : fN n k = k n := by cases n <;> rfl
def bsel {α : Type} (b : Bool) (x y : α) : α := @Bool.rec (fun _ => α) y x b
@[simp] theorem bsel_t {α : Type} (x y : α) : bsel true x y = x := rfl
@[simp] theorem bsel_f {α : Type} (x y : α) : bsel false x y = y := rfl
abbrev dc (x : D) (a : Nat → Bool) (b : Nat → Bool) (c : Nat → List D → Bool) (r : List D → Bool) (d : Nat → Bool) (e : At → Bool) : Bool := @D.rec (fun _ => Bool) (fun _ => Bool) a b (fun p ds _ => c p ds) (fun ds _ => r ds) d e false (fun _ _ _ _ => false) x
def nF : Nat → Bool := fun _ => false
def lF : List D → Bool := fun _ => false
def pF : Nat → List D → Bool := fun _ _ => false
def aF : At → Bool := fun _ => false
abbrev unk : D := .oth .unk

/-! ### slots -/
def gE (es : List D) : Nat → D := @List.rec D (fun _ => Nat → D) (fun _ => .oth .unk) (fun x _ ih i => @Nat.rec (fun _ => D) x (fun j _ => ih j) i) es
def sE (es : List D) : Nat → D → List D := @List.rec D (fun _ => Nat → D → List D) (fun _ _ => []) (fun x r ih i v => @Nat.rec (fun _ => List D) (v :: r) (fun j _ => x :: ih j v) i) es
@[simp] theorem gE_nil (i : Nat) : gE [] i = unk := rfl
@[simp] theorem gE_zero (x : D) (r : List D) : gE (x :: r) 0 = x := rfl
@[simp] theorem gE_succ (x : D) (r : List D) (i : Nat) : gE (x :: r) (i + 1) = gE r i := rfl
@[simp] theorem sE_nil (i : Nat) (v : D) : sE [] i v = [] := rfl
@[simp] theorem sE_zero (x v : D) (r : List D) : sE (x :: r) 0 v = v :: r := rfl
@[simp] theorem sE_succ (x v : D) (r : List D) (i : Nat) : sE (x :: r) (i + 1) v = x :: sE r i v := rfl
theorem sE_length : ∀ (es : List D) (i : Nat) (v : D), (sE es i v).length = es.length
  | [], _, _ => rfl
  | _ :: _, 0, _ => rfl
  | x :: r, i + 1, v => by rw [sE_succ, List.length_cons, List.length_cons, sE_length r i v]
theorem gE_sE_ne : ∀ (es : List D) (i j : Nat) (v : D), j ≠ i → gE (sE es i v) j = gE es j
  | [], _, _, _, _ => rfl
  | _ :: _, 0, 0, _, h => absurd rfl h
  | _ :: _, 0, _ + 1, _, _ => rfl
  | _ :: _, _ + 1, 0, _, _ => rfl
  | _ :: r, i + 1, j + 1, v, h => gE_sE_ne r i j v fun e => h (by rw [e])
theorem gE_sE : ∀ (es : List D) (i : Nat) (v : D), i < es.length → gE (sE es i v) i = v
  | [], _, _, h => absurd h (Nat.not_lt_zero _)
  | _ :: _, 0, _, _ => rfl
  | _ :: r, i + 1, v, h => gE_sE r i v (Nat.lt_of_succ_lt_succ h)
theorem sE_out : ∀ (es : List D) (i : Nat) (v : D), es.length ≤ i → sE es i v = es
  | [], _, _, _ => rfl
  | _ :: _, 0, _, h => absurd h (Nat.not_succ_le_zero _)
  | x :: r, i + 1, v, h => by rw [sE_succ, sE_out r i v (Nat.le_of_succ_le_succ h)]
/-- slots forgotten -/
def wE (es : List D) (vs : List Nat) : List D := @List.rec Nat (fun _ => List D) es (fun v _ ih => sE ih v unk) vs
@[simp] theorem wE_nil (es : List D) : wE es [] = es := rfl
@[simp] theorem wE_cons (es : List D) (v : Nat) (vs : List Nat) : wE es (v :: vs) = sE (wE es vs) v unk := rfl

/-! ### the evaluator's heap -/
def lk (eh : List (Nat × LO)) (j : Nat) : Option LO := match eh with
  | [] => none
  | (i, o) :: r => if i = j then some o else lk r j
def look (eh : List (Nat × LO)) (j : Nat) (k : LO → Bool) : Bool := @List.rec (Nat × LO) (fun _ => Bool) false (fun p _ ih => @Prod.rec _ _ (fun _ => Bool) (fun i o => @Bool.rec (fun _ => Bool) ih (k o) (Nat.beq i j)) p) eh
theorem look_eq (k : LO → Bool) (j : Nat) : ∀ eh : List (Nat × LO), look eh j k = (match lk eh j with | some o => k o | none => false)
  | [] => rfl
  | (i, o) :: r => by
    have e : look ((i, o) :: r) j k = @Bool.rec (fun _ => Bool) (look r j k) (k o) (Nat.beq i j) := rfl
    rw [e]
    unfold lk
    by_cases h : i = j
    · subst h
      rw [if_pos rfl, Nat.beq_refl]
    · rw [if_neg h]
      have hb : Nat.beq i j = false := by
        cases q : Nat.beq i j with
        | true => exact absurd (Nat.eq_of_beq_eq_true q) h
        | false => rfl
      rw [hb]
      exact look_eq k j r
theorem look_true {k : LO → Bool} {j : Nat} {eh : List (Nat × LO)} (h : look eh j k = true) : ∃ o, lk eh j = some o ∧ k o = true := by
  rw [look_eq] at h
  cases q : lk eh j with
  | none => rw [q] at h; cases h
  | some o => rw [q] at h; exact ⟨o, rfl, h⟩
def put (eh : List (Nat × LO)) (j : Nat) (o : LO) : List (Nat × LO) := @List.rec (Nat × LO) (fun _ => List (Nat × LO)) [] (fun p r ih => @Prod.rec _ _ (fun _ => List (Nat × LO)) (fun i u => @Bool.rec (fun _ => List (Nat × LO)) ((i, u) :: ih) ((i, o) :: r) (Nat.beq i j)) p) eh
theorem lk_put (j : Nat) (o : LO) (i : Nat) : ∀ eh : List (Nat × LO), lk (put eh j o) i = if i = j then (lk eh j).map (fun _ => o) else lk eh i
  | [] => by
    show lk [] i = _
    unfold lk
    by_cases h : i = j
    · rw [if_pos h]; rfl
    · rw [if_neg h]
  | (a, u) :: r => by
    have e : put ((a, u) :: r) j o = @Bool.rec (fun _ => List (Nat × LO)) ((a, u) :: put r j o) ((a, o) :: r) (Nat.beq a j) := rfl
    rw [e]
    by_cases h : a = j
    · subst h
      rw [Nat.beq_refl]
      show lk ((a, o) :: r) i = _
      unfold lk
      by_cases h2 : a = i
      · subst h2; simp
      · rw [if_neg h2, if_neg (fun z => h2 z.symm), if_neg h2]
    · have hb : Nat.beq a j = false := by
        cases q : Nat.beq a j with
        | true => exact absurd (Nat.eq_of_beq_eq_true q) h
        | false => rfl
      rw [hb]
      show lk ((a, u) :: put r j o) i = _
      have ih := lk_put j o i r
      by_cases h2 : a = i
      · subst h2
        rw [if_neg h]
        simp [lk]
      · simp only [lk, if_neg h2, if_neg h, ih]
def alloc (o : LO) (h : Hv) (k : KD) : Bool := @Hv.rec (fun _ => Bool) (fun n m => fN (Nat.succ n) fun n1 => k (.ref n) ⟨n1, (n, o) :: m⟩) h
theorem alloc_eq (o : LO) (h : Hv) (k : KD) : alloc o h k = k (.ref h.n) ⟨h.n + 1, (h.n, o) :: h.m⟩ := by
  obtain ⟨n, m⟩ := h
  exact fN_eq (n + 1) (fun n1 => k (.ref n) ⟨n1, (n, o) :: m⟩)
/-- the entries ahead of n0 are kept -/
def trim (eh : List (Nat × LO)) (n0 : Nat) : List (Nat × LO) := @List.rec (Nat × LO) (fun _ => List (Nat × LO)) [] (fun p r ih => bsel (Nat.blt p.1 n0) (p :: r) ih) eh

/-! ### lists of data -/
def catL (a b : List D) : List D := @List.rec D (fun _ => List D) b (fun x _ ih => x :: ih) a
theorem catL_eq : ∀ a b : List D, catL a b = a ++ b
  | [], _ => rfl
  | x :: a, b => by
    show x :: catL a b = x :: (a ++ b)
    rw [catL_eq a b]
def lenA (l : List D) : Nat → Nat := @List.rec D (fun _ => Nat → Nat) (fun a => a) (fun _ _ ih a => ih (Nat.succ a)) l
theorem lenA_eq : ∀ (l : List D) (a : Nat), lenA l a = a + l.length
  | [], _ => rfl
  | _ :: r, a => by
    show lenA r (a + 1) = _
    rw [lenA_eq r (a + 1), List.length_cons]
    omega
def lenL (l : List D) : Nat := lenA l 0
theorem lenL_eq (l : List D) : lenL l = l.length := by unfold lenL; rw [lenA_eq, Nat.zero_add]
def repL (a : List D) (n : Nat) : List D := @Nat.rec (fun _ => List D) [] (fun _ ih => catL a ih) n
theorem repL_eq (a : List D) : ∀ n : Nat, repL a n = (List.replicate n a).flatten
  | 0 => rfl
  | n + 1 => by
    show catL a (repL a n) = _
    rw [catL_eq, repL_eq a n, List.replicate_succ, List.flatten_cons]
def revA (l : List D) : List D → List D := @List.rec D (fun _ => List D → List D) (fun a => a) (fun x _ ih a => ih (x :: a)) l
theorem revA_eq : ∀ (l a : List D), revA l a = l.reverse ++ a
  | [], _ => rfl
  | x :: r, a => by
    show revA r (x :: a) = _
    rw [revA_eq r (x :: a), List.reverse_cons, List.append_assoc]
    rfl
def revL (l : List D) : List D := revA l []
theorem revL_eq (l : List D) : revL l = l.reverse := by unfold revL; rw [revA_eq, List.append_nil]
/-- the item at a place -/
def nth (l : List D) : Nat → (D → Bool) → Bool := @List.rec D (fun _ => Nat → (D → Bool) → Bool) (fun _ _ => false) (fun x _ ih i k => @Nat.rec (fun _ => Bool) (k x) (fun j _ => ih j k) i) l
theorem nth_true {k : D → Bool} : ∀ {l : List D} {i : Nat}, nth l i k = true → ∃ d, l[i]? = some d ∧ k d = true
  | [], _, h => by cases h
  | x :: _, 0, h => ⟨x, rfl, h⟩
  | _ :: r, i + 1, h => by
    obtain ⟨d, e, q⟩ := nth_true (l := r) (i := i) h
    exact ⟨d, by rw [List.getElem?_cons_succ]; exact e, q⟩
def dropL (l : List D) (i : Nat) : List D := @Nat.rec (fun _ => List D → List D) (fun l => l) (fun _ ih l => @List.rec D (fun _ => List D) [] (fun _ r _ => ih r) l) i l
theorem dropL_eq : ∀ (i : Nat) (l : List D), dropL l i = l.drop i
  | 0, _ => rfl
  | _ + 1, [] => rfl
  | i + 1, _ :: r => dropL_eq i r
def takeL (l : List D) : Nat → List D := @List.rec D (fun _ => Nat → List D) (fun _ => []) (fun x _ ih i => @Nat.rec (fun _ => List D) [] (fun j _ => x :: ih j) i) l
theorem takeL_eq : ∀ (l : List D) (i : Nat), takeL l i = l.take i
  | [], i => by cases i <;> rfl
  | _ :: _, 0 => rfl
  | x :: r, i + 1 => by
    show x :: takeL r i = x :: r.take i
    rw [takeL_eq r i]
def setL (l : List D) : Nat → D → List D := sE l
theorem setL_eq : ∀ (l : List D) (i : Nat) (v : D), setL l i v = l.set i v
  | [], _, _ => rfl
  | _ :: _, 0, _ => rfl
  | x :: r, i + 1, v => by
    show x :: setL r i v = x :: r.set i v
    rw [setL_eq r i v]
def eraseL (l : List D) : Nat → List D := @List.rec D (fun _ => Nat → List D) (fun _ => []) (fun x r ih i => @Nat.rec (fun _ => List D) r (fun j _ => x :: ih j) i) l
theorem eraseL_eq : ∀ (l : List D) (i : Nat), eraseL l i = l.eraseIdx i
  | [], _ => rfl
  | _ :: _, 0 => rfl
  | x :: r, i + 1 => by
    show x :: eraseL r i = x :: r.eraseIdx i
    rw [eraseL_eq r i]
def rangeL (n : Nat) : Nat → List D := @Nat.rec (fun _ => Nat → List D) (fun _ => []) (fun _ ih lo => .nat lo :: ih (Nat.succ lo)) n
theorem rangeL_length : ∀ (n lo : Nat), (rangeL n lo).length = n
  | 0, _ => rfl
  | n + 1, lo => by
    show (rangeL n (lo + 1)).length + 1 = n + 1
    rw [rangeL_length n (lo + 1)]
theorem rangeL_at : ∀ (n lo i : Nat), i < n → (rangeL n lo)[i]? = some (.nat (lo + i))
  | 0, _, _, h => absurd h (Nat.not_lt_zero _)
  | n + 1, lo, 0, _ => rfl
  | n + 1, lo, i + 1, h => by
    show (D.nat lo :: rangeL n (lo + 1))[i + 1]? = _
    rw [List.getElem?_cons_succ, rangeL_at n (lo + 1) i (by omega)]
    congr 2
    omega
/-! ### depths -/
def dpt : D → Option Nat
  | .nat _ => some 0
  | .neg _ => some 0
  | .tup p _ => some p
  | .oth .unk => none
  | .oth _ => some 0
  | _ => none
/-- all are without lists, of depth at most a (k), or not (no) -/
def depA (ds : List D) : Nat → (Nat → Bool) → Bool → Bool := @List.rec D (fun _ => Nat → (Nat → Bool) → Bool → Bool) (fun a k _ => k a)
  (fun x _ ih a k no => dc x (fun _ => ih a k no) (fun _ => ih a k no) (fun p _ => ih (bsel (Nat.ble a p) p a) k no) (fun _ => no) (fun _ => no) (fun t => @At.rec (fun _ => Bool) no (ih a k no) (fun _ => ih a k no) (fun _ => ih a k no) t)) ds
theorem depA_true : ∀ {ds : List D} {a : Nat} {k : Nat → Bool} {no : Bool}, depA ds a k no = true → (no = true) ∨ ∃ p, k p = true ∧ a ≤ p ∧ ∀ d ∈ ds, ∃ q, dpt d = some q ∧ q ≤ p
  | [], a, k, no, h => .inr ⟨a, h, Nat.le_refl _, fun _ z => nomatch z⟩
  | x :: r, a, k, no, h => by
    have go : ∀ {b q : Nat}, a ≤ b → q ≤ b → dpt x = some q → depA r b k no = true → (no = true) ∨ ∃ p, k p = true ∧ a ≤ p ∧ ∀ d ∈ x :: r, ∃ q, dpt d = some q ∧ q ≤ p := fun {b q} l l2 e z => by
      rcases depA_true z with y | ⟨p, y1, y2, y3⟩
      · exact .inl y
      · refine .inr ⟨p, y1, Nat.le_trans l y2, fun d hd => ?_⟩
        rcases List.mem_cons.mp hd with rfl | hd
        · exact ⟨q, e, Nat.le_trans l2 y2⟩
        · exact y3 d hd
    cases x with
    | nat i => exact go (Nat.le_refl _) (Nat.zero_le _) rfl h
    | neg i => exact go (Nat.le_refl _) (Nat.zero_le _) rfl h
    | tup p ds =>
      have h' : depA r (bsel (Nat.ble a p) p a) k no = true := h
      cases e : Nat.ble a p with
      | true =>
        rw [e] at h'
        exact go (Nat.le_of_ble_eq_true e) (Nat.le_refl _) rfl h'
      | false =>
        rw [e] at h'
        exact go (Nat.le_refl _) (Nat.le_of_not_le fun z => by rw [Nat.ble_eq_true_of_le z] at e; cases e) rfl h'
    | tpr ds => exact .inl h
    | ref j => exact .inl h
    | oth t =>
      cases t with
      | unk => exact .inl h
      | non => exact go (Nat.le_refl _) (Nat.zero_le _) rfl h
      | bl b => exact go (Nat.le_refl _) (Nat.zero_le _) rfl h
      | str z => exact go (Nat.le_refl _) (Nat.zero_le _) rfl h
/-- a tuple of these -/
def mkT (ds : List D) (k : D → Bool) : Bool := depA ds 0 (fun p => fN (Nat.succ p) fun p => k (.tup p ds)) (k (.tpr ds))

/-- pairs, one by one -/
def zipL (a : List D) : List D → (List D → Bool) → Bool := @List.rec D (fun _ => List D → (List D → Bool) → Bool) (fun _ k => k []) (fun x _ ih b k => @List.rec D (fun _ => Bool) (k []) (fun y r _ => mkT [x, y] fun t => ih r fun ts => k (t :: ts)) b) a
def enumA (l : List D) : Nat → (List D → Bool) → Bool := @List.rec D (fun _ => Nat → (List D → Bool) → Bool) (fun _ k => k []) (fun x _ ih i k => fN i fun i => mkT [.nat i, x] fun t => ih (Nat.succ i) fun ts => k (t :: ts)) l

/-! ### equality and order -/
def listEqN (a : List Nat) : List Nat → Bool := @List.rec Nat (fun _ => List Nat → Bool) (fun b => @List.rec Nat (fun _ => Bool) true (fun _ _ _ => false) b) (fun x _ ih b => @List.rec Nat (fun _ => Bool) false (fun y r _ => bsel (Nat.beq x y) (ih r) false) b) a
def b01 (b : Bool) : Nat := bsel b 1 0
def eqAt (a b : At) : Bool := @At.rec (fun _ => Bool) false (@At.rec (fun _ => Bool) false true (fun _ => false) (fun _ => false) b) (fun x => @At.rec (fun _ => Bool) false false (fun y => bsel x y (bsel y false true)) (fun _ => false) b) (fun x => @At.rec (fun _ => Bool) false false (fun _ => false) (listEqN x) b) a
def atNat (a : At) (j : Nat) : Bool := @At.rec (fun _ => Bool) false false (fun b => Nat.beq (b01 b) j) (fun _ => false) a
/-- == of data without lists -/
def eqD (x : D) : D → Bool := @D.rec (fun _ => D → Bool) (fun _ => List D → Bool)
  (fun i y => dc y (fun j => Nat.beq i j) nF pF lF nF (fun a => atNat a i))
  (fun i y => dc y nF (fun j => Nat.beq i j) pF lF nF aF)
  (fun _ _ ih y => dc y nF nF (fun _ l => ih l) lF nF aF)
  (fun _ _ _ => false)
  (fun _ _ => false)
  (fun a y => dc y (fun j => atNat a j) nF pF lF nF (fun b => eqAt a b))
  (fun l => @List.rec D (fun _ => Bool) true (fun _ _ _ => false) l)
  (fun _ _ ihx ihr l => @List.rec D (fun _ => Bool) false (fun y r _ => bsel (ihx y) (ihr r) false) l) x
def eqL (a : List D) (l : List D) : Bool := eqD (.tup 0 a) (.tup 0 l)
end Pv
set_option Elab.async false
set_option linter.all false
set_option maxRecDepth 100000
set_option maxHeartbeats 4000000
/-! The relation between the layer's heap and the evaluator's; readings of combinators. -/
noncomputable section
namespace Pv
open PySem PySem.Spec PyProof.Rows L2

/-! ### data beside values -/
mutual
inductive RD (K : PySem.W.Frag) (m : Nat → Addr) (H : Hp) (n : Nat) : V → D → Prop
  | nat (i : Nat) : RD K m H n (.int (Int.ofNat i)) (.nat i)
  | neg (i : Nat) : RD K m H n (.int (Int.negSucc i)) (.neg i)
  | tup {a : Addr} {p : Nat} {vs : List V} {ds : List D} : SqT K H a vs → RDs K m H n vs ds → 0 < p → (∀ d ∈ ds, ∃ q, dpt d = some q ∧ q < p) → RD K m H n (.ref a) (.tup p ds)
  | tpr {a : Addr} {vs : List V} {ds : List D} : SqT K H a vs → RDs K m H n vs ds → RD K m H n (.ref a) (.tpr ds)
  | ref (j : Nat) : j < n → RD K m H n (.ref (m j)) (.ref j)
  | non : RD K m H n .non (.oth .non)
  | bl (b : Bool) : RD K m H n (.bl b) (.oth (.bl b))
  | str (x : List Nat) : (∀ c ∈ x, c < 0x110000) → RD K m H n (.str ⟨x.toArray⟩) (.oth (.str x))
inductive RDs (K : PySem.W.Frag) (m : Nat → Addr) (H : Hp) (n : Nat) : List V → List D → Prop
  | nil : RDs K m H n [] []
  | cons {v : V} {d : D} {vs : List V} {ds : List D} : RD K m H n v d → RDs K m H n vs ds → RDs K m H n (v :: vs) (d :: ds)
end
/-! ### keys -/
mutual
/-- the key (tuples of numbers, bools, None) -/
def nk : D → NestedKey
  | .nat n => .num (Int.ofNat n)
  | .neg n => .num (Int.negSucc n)
  | .tup _ ds => .tup (nks ds)
  | .oth (.bl b) => .num (if b = true then 1 else 0)
  | _ => .none
def nks : List D → List NestedKey
  | [] => []
  | d :: ds => nk d :: nks ds
end
mutual
/-- a key of depth at most p -/
inductive Kd : D → Nat → Prop
  | nat (n p : Nat) : Kd (.nat n) p
  | neg (n p : Nat) : Kd (.neg n) p
  | non (p : Nat) : Kd (.oth .non) p
  | bl (b : Bool) (p : Nat) : Kd (.oth (.bl b)) p
  | tup {q p : Nat} {ds : List D} : KdS ds p → Kd (.tup q ds) (p + 1)
inductive KdS : List D → Nat → Prop
  | nil {p : Nat} : KdS [] p
  | cons {p : Nat} {d : D} {ds : List D} : Kd d p → KdS ds p → KdS (d :: ds) p
end
abbrev KX := List (NestedKey × Addr × Value)
def entK (w : World) (x : NestedKey × Addr × Value) : DictEntry := ⟨x.1.hash w, .ref x.2.1, x.2.2⟩
/-- the dict at a, by its entries -/
def dctO (a : Addr) (es : List DictEntry) : HO := .ext fun h => ∃ o ep, h.get? a = some o ∧ o.ExactDict ∧ o.data = .dict es.toArray ep
/-- a dict with tuples for keys -/
def DctOk (K : PySem.W.Frag) (m : Nat → Addr) (H : Hp) (n : Nat) (a : Addr) (ks vs : List D) : Prop :=
  ∃ (w : World) (xs : KX) (us : List V), H a = some (dctO a (xs.map (entK w))) ∧ (a == sysModules) = false ∧ xs.length ≤ sizeLine ∧ (xs.map (·.1)).Nodup ∧
    RDs K m H n (xs.map fun x => V.ref x.2.1) ks ∧ xs.map (·.1) = nks ks ∧ (∀ d ∈ ks, Kd d 8 ∧ ∃ p ds, d = .tup p ds) ∧ RDs K m H n us vs ∧ Vals us (xs.map (·.2.2))
/-- the source of draws: no more draws than n -/
def TinOk (n : Nat) (x y z : Int) : Prop := 0 ≤ x ∧ 0 ≤ y ∧ y < 2 ^ 62 ∧ 0 ≤ z ∧ z ≤ n
theorem TinOk.succ {n : Nat} {x y z : Int} (h : TinOk n x y z) : TinOk (n + 1) x y z := ⟨h.1, h.2.1, h.2.2.1, h.2.2.2.1, by have := h.2.2.2.2; omega⟩
/-- an object -/
def OD (K : PySem.W.Frag) (m : Nat → Addr) (H : Hp) (n : Nat) (a : Addr) : LO → Prop
  | .lst ds => ∃ vs, H a = some (.lst vs) ∧ RDs K m H n vs ds
  | .dct ks vs => DctOk K m H n a ks vs
  | .tin => ∃ x y z : Int, TinOk n x y z ∧ H a = some (.lst [.int x, .int y, .int z])
def live (eh : List (Nat × LO)) (j : Nat) : Prop := (lk eh j).isSome = true
structure HS (K : PySem.W.Frag) (m : Nat → Addr) (h : Hv) (H : Hp) : Prop where
  obj : ∀ j o, lk h.m j = some o → j < h.n ∧ OD K m H h.n (m j) o
  inj : ∀ i j, live h.m i → live h.m j → m i = m j → i = j
  srt : (h.m.map Prod.fst).Pairwise (· > ·)
structure Ext (m : Nat → Addr) (h : Hv) (H : Hp) (m' : Nat → Addr) (h' : Hv) (H' : Hp) : Prop where
  le : h.n ≤ h'.n
  agr : ∀ j, j < h.n → m' j = m j
  keep : ∀ a o, H a = some o → (∀ j, live h.m j → m j ≠ a) → H' a = some o ∧ ∀ j, live h'.m j → m' j ≠ a
  live : ∀ j, live h.m j → Pv.live h'.m j
def Sl (K : PySem.W.Frag) (m : Nat → Addr) (H : Hp) (n : Nat) (es : List D) (σ : L2.St) : Prop :=
  es.length = σ.length ∧ ∀ i, gE es i = unk ∨ ∃ v, σ[i]? = some (some v) ∧ RD K m H n v (gE es i)
structure W (K : PySem.W.Frag) (m : Nat → Addr) (h : Hv) (H : Hp) (es : List D) (σ : L2.St) : Prop where
  hs : HS K m h H
  sl : Sl K m H h.n es σ

section
variable {K : PySem.W.Frag} {m m' m2 : Nat → Addr} {h h' h2 : Hv} {H H' H2 : Hp} {n n' : Nat} {es es' : List D} {σ σ' : L2.St} {v : V} {d : D} {vs : List V} {ds : List D} {a : Addr} {o : HO} {j : Nat}

theorem Ext.refl : Ext m h H m h H := ⟨Nat.le_refl _, fun _ _ => rfl, fun _ _ e q => ⟨e, q⟩, fun _ q => q⟩
theorem Ext.trans (e : Ext m h H m' h' H') (f : Ext m' h' H' m2 h2 H2) : Ext m h H m2 h2 H2 where
  le := Nat.le_trans e.le f.le
  agr := fun j hj => (f.agr j (Nat.lt_of_lt_of_le hj e.le)).trans (e.agr j hj)
  keep := fun a o q z => by
    obtain ⟨q1, z1⟩ := e.keep a o q z
    exact f.keep a o q1 z1
  live := fun j q => f.live j (e.live j q)

theorem mem_lk : ∀ {eh : List (Nat × LO)} {j : Nat}, j ∈ eh.map Prod.fst → ∃ o, lk eh j = some o
  | [], j, z => nomatch z
  | (i, o) :: r, j, z => by
    show ∃ u, (if i = j then some o else lk r j) = some u
    by_cases e : i = j
    · rw [if_pos e]; exact ⟨o, rfl⟩
    · rw [if_neg e]
      rcases List.mem_cons.mp z with q | q
      · exact absurd q.symm e
      · exact mem_lk q
theorem put_keys {j : Nat} {o : LO} : ∀ eh : List (Nat × LO), (put eh j o).map Prod.fst = eh.map Prod.fst
  | [] => rfl
  | (i, u) :: r => by
    have e : put ((i, u) :: r) j o = @Bool.rec (fun _ => List (Nat × LO)) ((i, u) :: put r j o) ((i, o) :: r) (Nat.beq i j) := rfl
    rw [e]
    cases Nat.beq i j with
    | false => show i :: (put r j o).map Prod.fst = _; rw [put_keys r]; rfl
    | true => rfl
theorem HS.keys (w : HS K m h H) : ∀ j ∈ h.m.map Prod.fst, j < h.n := fun j z => by
  obtain ⟨o, e⟩ := mem_lk z
  exact (w.obj j o e).1
/-- what is tracked -/
def Trk : HO → Prop
  | .lst _ => True
  | .ext _ => True
  | _ => False
theorem HS.lst_at (w : HS K m h H) (q : live h.m j) : ∃ o, H (m j) = some o ∧ Trk o := by
  unfold live at q
  cases e : lk h.m j with
  | none => rw [e] at q; cases q
  | some o =>
    obtain ⟨_, od⟩ := w.obj j o e
    cases o with
    | lst ds => obtain ⟨vs, r, _⟩ := od; exact ⟨_, r, trivial⟩
    | dct ks vs => obtain ⟨_, _, _, r, _⟩ := od; exact ⟨_, r, trivial⟩
    | tin => obtain ⟨x, y, z, _, r⟩ := od; exact ⟨_, r, trivial⟩
theorem HS.apart (w : HS K m h H) (e : H a = some o) (no : ¬ Trk o) : ∀ j, live h.m j → m j ≠ a := fun j q z => by
  obtain ⟨u, r, t⟩ := w.lst_at q
  rw [z, e] at r
  cases r
  exact no t
theorem Ext.tup (e : Ext m h H m' h' H') (w : HS K m h H) {xs : List V} (s : SqT K H a xs) : SqT K H' a xs := by
  rcases s with (r | ⟨o, r⟩) | r
  · exact .inl (.inl (e.keep a _ r (w.apart r fun z => z)).1)
  · exact .inl (.inr ⟨o, (e.keep a _ r (w.apart r fun z => z)).1⟩)
  · exact .inr r
mutual
theorem RD.mono (e : Ext m h H m' h' H') (w : HS K m h H) : ∀ {v : V} {d : D}, RD K m H h.n v d → RD K m' H' h'.n v d
  | _, _, .nat i => .nat i
  | _, _, .neg i => .neg i
  | _, _, .tup s r z q => .tup (e.tup w s) (RDs.mono e w r) z q
  | _, _, .tpr s r => .tpr (e.tup w s) (RDs.mono e w r)
  | _, _, .ref j q => by
    rw [← e.agr j q]
    exact .ref j (Nat.lt_of_lt_of_le q e.le)
  | _, _, .non => .non
  | _, _, .bl b => .bl b
  | _, _, .str x q => .str x q
theorem RDs.mono (e : Ext m h H m' h' H') (w : HS K m h H) : ∀ {vs : List V} {ds : List D}, RDs K m H h.n vs ds → RDs K m' H' h'.n vs ds
  | _, _, .nil => .nil
  | _, _, .cons r s => .cons (RD.mono e w r) (RDs.mono e w s)
end
theorem Sl.mono (e : Ext m h H m' h' H') (w : HS K m h H) (s : Sl K m H h.n es σ) : Sl K m' H' h'.n es σ :=
  ⟨s.1, fun i => (s.2 i).imp id fun ⟨v, q, r⟩ => ⟨v, q, r.mono e w⟩⟩
theorem W.mono (w : W K m h H es σ) (e : Ext m h H m' h' H') (w' : HS K m' h' H') : W K m' h' H' es σ := ⟨w', w.sl.mono e w.hs⟩

theorem DctOk.mono {a : Addr} {o : HO} {ks vs : List D} {p : Addr} (e : Ext m h H m' h' (upd H p o)) (w : HS K m h H) (x : DctOk K m H h.n a ks vs) (ne : a ≠ p) : DctOk K m' (upd H p o) h'.n a ks vs := by
  obtain ⟨wd, xs, us, r, s, l, nd, rk, ek, kk, rv, vv⟩ := x
  exact ⟨wd, xs, us, by rw [upd_ne ne]; exact r, s, l, nd, rk.mono e w, ek, kk, rv.mono e w, vv⟩
/-! ### lists of data beside lists of values -/
theorem RDs.length : ∀ {vs : List V} {ds : List D}, RDs K m H n vs ds → vs.length = ds.length
  | _, _, .nil => rfl
  | _, _, .cons _ r => by rw [List.length_cons, List.length_cons, r.length]
theorem RDs.get : ∀ {vs : List V} {ds : List D} {i : Nat} {d : D}, RDs K m H n vs ds → ds[i]? = some d → ∃ v, vs[i]? = some v ∧ RD K m H n v d
  | _, _, _, _, .nil, e => by simp at e
  | _, _, 0, _, .cons r _, e => by simp at e; subst e; exact ⟨_, rfl, r⟩
  | _, _, i + 1, d, .cons _ t, e => by
    obtain ⟨u, h1, h2⟩ := RDs.get (i := i) (d := d) t (by simpa using e)
    exact ⟨u, by simpa using h1, h2⟩
theorem RDs.getV : ∀ {vs : List V} {ds : List D} {i : Nat} {v : V}, RDs K m H n vs ds → vs[i]? = some v → ∃ d, ds[i]? = some d ∧ RD K m H n v d
  | _, _, _, _, .nil, e => by simp at e
  | _, _, 0, _, .cons r _, e => by simp at e; subst e; exact ⟨_, rfl, r⟩
  | _, _, i + 1, d, .cons _ t, e => by
    obtain ⟨u, h1, h2⟩ := RDs.getV (i := i) (v := d) t (by simpa using e)
    exact ⟨u, by simpa using h1, h2⟩
theorem RDs.append : ∀ {vs ws : List V} {ds fs : List D}, RDs K m H n vs ds → RDs K m H n ws fs → RDs K m H n (vs ++ ws) (ds ++ fs)
  | _, _, _, _, .nil, s => s
  | _, _, _, _, .cons r t, s => .cons r (RDs.append t s)
theorem RDs.take : ∀ {vs : List V} {ds : List D} (i : Nat), RDs K m H n vs ds → RDs K m H n (vs.take i) (ds.take i)
  | _, _, 0, _ => .nil
  | _, _, _ + 1, .nil => .nil
  | _, _, i + 1, .cons r t => .cons r (RDs.take i t)
theorem RDs.drop : ∀ {vs : List V} {ds : List D} (i : Nat), RDs K m H n vs ds → RDs K m H n (vs.drop i) (ds.drop i)
  | _, _, 0, r => r
  | _, _, _ + 1, .nil => .nil
  | _, _, i + 1, .cons _ t => RDs.drop i t
theorem RDs.set {v : V} {d : D} (q : RD K m H n v d) : ∀ {vs : List V} {ds : List D} (i : Nat), RDs K m H n vs ds → RDs K m H n (vs.set i v) (ds.set i d)
  | _, _, _, .nil => .nil
  | _, _, 0, .cons _ t => .cons q t
  | _, _, i + 1, .cons r t => .cons r (RDs.set q i t)
theorem RDs.erase : ∀ {vs : List V} {ds : List D} (i : Nat), RDs K m H n vs ds → RDs K m H n (vs.eraseIdx i) (ds.eraseIdx i)
  | _, _, _, .nil => .nil
  | _, _, 0, .cons _ t => t
  | _, _, i + 1, .cons r t => .cons r (RDs.erase i t)
theorem RDs.reverse : ∀ {vs : List V} {ds : List D}, RDs K m H n vs ds → RDs K m H n vs.reverse ds.reverse
  | _, _, .nil => .nil
  | _, _, .cons r t => by
    rw [List.reverse_cons, List.reverse_cons]
    exact RDs.append (RDs.reverse t) (.cons r .nil)
theorem RDs.rep (r : RDs K m H n vs ds) : ∀ k : Nat, RDs K m H n (List.replicate k vs).flatten (List.replicate k ds).flatten
  | 0 => .nil
  | k + 1 => by
    rw [List.replicate_succ, List.replicate_succ, List.flatten_cons, List.flatten_cons]
    exact RDs.append r (RDs.rep r k)
theorem RDs.nil_iff (r : RDs K m H n vs ds) : vs = [] ↔ ds = [] := by
  cases r with
  | nil => simp
  | cons _ _ => simp

/-! ### slots -/
theorem Sl.set (s : Sl K m H n es σ) (i : Nat) {v : V} {d : D} (r : RD K m H n v d) : Sl K m H n (sE es i d) (σ.set i (some v)) := by
  refine ⟨by rw [sE_length, List.length_set]; exact s.1, fun j => ?_⟩
  by_cases hj : j = i
  · subst hj
    by_cases hl : j < es.length
    · rw [gE_sE es j d hl]
      exact .inr ⟨v, by rw [List.getElem?_set_self (by rw [← s.1]; exact hl)], r⟩
    · rw [sE_out es j d (Nat.le_of_not_lt hl), List.set_eq_of_length_le (by rw [← s.1]; exact Nat.le_of_not_lt hl)]
      exact s.2 j
  · rw [gE_sE_ne es i j d hj, List.getElem?_set_ne (Ne.symm hj)]
    exact s.2 j
theorem Sl.forget (s : Sl K m H n es σ) (i : Nat) (x : Option V) : Sl K m H n (sE es i unk) (σ.set i x) := by
  refine ⟨by rw [sE_length, List.length_set]; exact s.1, fun j => ?_⟩
  by_cases hj : j = i
  · subst hj
    by_cases hl : j < es.length
    · rw [gE_sE es j unk hl]
      exact .inl rfl
    · rw [sE_out es j unk (Nat.le_of_not_lt hl), List.set_eq_of_length_le (by rw [← s.1]; exact Nat.le_of_not_lt hl)]
      exact s.2 j
  · rw [gE_sE_ne es i j unk hj, List.getElem?_set_ne (Ne.symm hj)]
    exact s.2 j
theorem Sl.wipe (s : Sl K m H n es σ) : ∀ vs : List Nat, Sl K m H n (wE es vs) (L2.wipe σ vs)
  | [] => s
  | v :: vs => by
    rw [wE_cons]
    exact (Sl.wipe s vs).forget v none
theorem W.set (w : W K m h H es σ) (i : Nat) {v : V} {d : D} (r : RD K m H h.n v d) : W K m h H (sE es i d) (σ.set i (some v)) := ⟨w.hs, w.sl.set i r⟩

/-! ### steps of the heap -/
/-- a new tracked list (or another object) -/
theorem HS.alloc (w : HS K m h H) {p : Addr} {o : LO} {ho : HO} (hp : H p = none) (od : OD K (fun j => if j = h.n then p else m j) (upd H p ho) (h.n + 1) p o) :
    HS K (fun j => if j = h.n then p else m j) ⟨h.n + 1, (h.n, o) :: h.m⟩ (upd H p ho) ∧ Ext m h H (fun j => if j = h.n then p else m j) ⟨h.n + 1, (h.n, o) :: h.m⟩ (upd H p ho) := by
  have lkc : ∀ j, lk ((h.n, o) :: h.m) j = if h.n = j then some o else lk h.m j := fun j => rfl
  have lt : ∀ j, Pv.live h.m j → j < h.n := fun j q => by
    unfold Pv.live at q
    cases e : lk h.m j with
    | none => rw [e] at q; cases q
    | some u => exact (w.obj j u e).1
  have nin : ∀ j, Pv.live h.m j → m j ≠ p := fun j q z => by
    obtain ⟨vs, r, _⟩ := w.lst_at q
    rw [z, hp] at r
    cases r
  have ex : Ext m h H (fun j => if j = h.n then p else m j) ⟨h.n + 1, (h.n, o) :: h.m⟩ (upd H p ho) := by
    refine ⟨Nat.le_succ _, fun j hj => if_neg (Nat.ne_of_lt hj), fun a ob e q => ⟨?_, fun j z => ?_⟩, fun j q => ?_⟩
    · rw [upd_ne (ne_of_none e hp)]; exact e
    · show (if j = h.n then p else m j) ≠ a
      by_cases hj : j = h.n
      · rw [if_pos hj]; exact fun e2 => by rw [e2, e] at hp; cases hp
      · rw [if_neg hj]
        refine q j ?_
        unfold Pv.live at z ⊢
        rw [lkc, if_neg (fun e => hj e.symm)] at z
        exact z
    · show (lk ((h.n, o) :: h.m) j).isSome = true
      have l := lt j q
      rw [lkc, if_neg (by omega)]
      exact q
  refine ⟨⟨fun j u q => ?_, fun i j q1 q2 z => ?_, ?_⟩, ex⟩
  · have q' : lk ((h.n, o) :: h.m) j = some u := q
    rw [lkc] at q'
    by_cases hj : h.n = j
    · rw [if_pos hj] at q'
      cases q'
      subst hj
      refine ⟨Nat.lt_succ_self _, ?_⟩
      show OD K _ _ _ (if h.n = h.n then p else m h.n) o
      rw [if_pos rfl]
      exact od
    · rw [if_neg hj] at q'
      obtain ⟨l, od'⟩ := w.obj j u q'
      refine ⟨Nat.lt_succ_of_lt l, ?_⟩
      have hne : m j ≠ p := nin j (by unfold Pv.live; rw [q']; rfl)
      show OD K _ _ _ (if j = h.n then p else m j) u
      rw [if_neg (fun e => hj e.symm)]
      cases u with
      | lst ds => obtain ⟨vs, r, s⟩ := od'; exact ⟨vs, by rw [upd_ne hne]; exact r, s.mono ex w⟩
      | dct ks vs => exact DctOk.mono ex w od' hne
      | tin => obtain ⟨x, y, zz, nn, r⟩ := od'; exact ⟨x, y, zz, nn.succ, by rw [upd_ne hne]; exact r⟩
  · have cases_ : ∀ i, Pv.live ((h.n, o) :: h.m) i → i = h.n ∨ (i ≠ h.n ∧ Pv.live h.m i) := fun i q => by
      by_cases hi : i = h.n
      · exact .inl hi
      · unfold Pv.live at q ⊢
        rw [lkc, if_neg (fun e => hi e.symm)] at q
        exact .inr ⟨hi, q⟩
    have z' : (if i = h.n then p else m i) = (if j = h.n then p else m j) := z
    rcases cases_ i q1 with a1 | ⟨a1, b1⟩ <;> rcases cases_ j q2 with a2 | ⟨a2, b2⟩
    · rw [a1, a2]
    · rw [if_pos a1, if_neg a2] at z'; exact absurd z'.symm (nin j b2)
    · rw [if_neg a1, if_pos a2] at z'; exact absurd z' (nin i b1)
    · rw [if_neg a1, if_neg a2] at z'; exact w.inj i j b1 b2 z'
  · exact List.pairwise_cons.mpr ⟨fun j z => w.keys j z, w.srt⟩
/-- an untracked new object -/
theorem HS.fresh (w : HS K m h H) {p : Addr} {ho : HO} (hp : H p = none) : HS K m h (upd H p ho) ∧ Ext m h H m h (upd H p ho) := by
  have nin : ∀ j, Pv.live h.m j → m j ≠ p := fun j q z => by
    obtain ⟨vs, r, _⟩ := w.lst_at q
    rw [z, hp] at r
    cases r
  have ex : Ext m h H m h (upd H p ho) := by
    refine ⟨Nat.le_refl _, fun _ _ => rfl, fun a ob e q => ⟨?_, q⟩, fun _ q => q⟩
    rw [upd_ne (ne_of_none e hp)]; exact e
  refine ⟨⟨fun j u q => ?_, w.inj, w.srt⟩, ex⟩
  obtain ⟨l, od'⟩ := w.obj j u q
  have hne : m j ≠ p := nin j (by unfold Pv.live; rw [q]; rfl)
  refine ⟨l, ?_⟩
  cases u with
  | lst ds => obtain ⟨vs, r, s⟩ := od'; exact ⟨vs, by rw [upd_ne hne]; exact r, s.mono ex w⟩
  | dct ks vs => exact DctOk.mono ex w od' hne
  | tin => obtain ⟨x, y, zz, nn, r⟩ := od'; exact ⟨x, y, zz, nn, by rw [upd_ne hne]; exact r⟩
theorem live_put {eh : List (Nat × LO)} {i j : Nat} {o : LO} : Pv.live (put eh j o) i ↔ Pv.live eh i := by
  unfold Pv.live
  rw [lk_put]
  by_cases h : i = j
  · subst h
    rw [if_pos rfl, Option.isSome_map]
  · rw [if_neg h]
/-- the list at j is changed (it is not walked) -/
theorem HS.write (w : HS K m h H) {o u : LO} {ho : HO} (q : lk h.m j = some u) (od : OD K m (upd H (m j) ho) h.n (m j) o) (hl : Trk ho) :
    HS K m ⟨h.n, put h.m j o⟩ (upd H (m j) ho) ∧ Ext m h H m ⟨h.n, put h.m j o⟩ (upd H (m j) ho) := by
  have lj : Pv.live h.m j := by unfold Pv.live; rw [q]; rfl
  have ex : Ext m h H m ⟨h.n, put h.m j o⟩ (upd H (m j) ho) := by
    refine ⟨Nat.le_refl _, fun _ _ => rfl, fun a ob e z => ⟨?_, fun i y => z i (live_put.mp y)⟩, fun i y => live_put.mpr y⟩
    rw [upd_ne (Ne.symm (z j lj))]; exact e
  refine ⟨⟨fun i x y => ?_, fun a b p1 p2 => w.inj a b (live_put.mp p1) (live_put.mp p2), by rw [put_keys]; exact w.srt⟩, ex⟩
  have y' : lk (put h.m j o) i = some x := y
  rw [lk_put] at y'
  by_cases hi : i = j
  · subst hi
    rw [if_pos rfl, q] at y'
    cases y'
    exact ⟨(w.obj i u q).1, od⟩
  · rw [if_neg hi] at y'
    obtain ⟨l, od'⟩ := w.obj i x y'
    have hne : m i ≠ m j := fun z => hi (w.inj i j (by unfold Pv.live; rw [y']; rfl) lj z)
    refine ⟨l, ?_⟩
    show OD K m _ h.n (m i) x
    cases x with
    | lst ds => obtain ⟨vs, r, s⟩ := od'; exact ⟨vs, by rw [upd_ne hne]; exact r, s.mono ex w⟩
    | dct ks vs => exact DctOk.mono (h' := ⟨h.n, put h.m j o⟩) ex w od' hne
    | tin => obtain ⟨x, y, zz, nn, r⟩ := od'; exact ⟨x, y, zz, nn, by rw [upd_ne hne]; exact r⟩
end
end Pv
set_option Elab.async false
set_option linter.all false
set_option maxRecDepth 100000
set_option maxHeartbeats 4000000
/-! Readings of combinators; expressions: names, constants, arithmetic, comparisons, tests, displays. -/
noncomputable section
namespace Pv
open PySem PySem.Spec PyProof.Rows L2

/-! ### readings -/
def Po (K : PySem.W.Frag) (m : Nat → Addr) (h : Hv) (H : Hp) (es : List D) (σ : L2.St) (k : KD) (Q : VK) : Prop :=
  ∀ v m' h' H' d, Ext m h H m' h' H' → W K m' h' H' es σ → RD K m' H' h'.n v d → k d h' = true → Q v H'
def rdE (K : PySem.W.Frag) (f : ME) : TE := fun σ H Q => ∃ m h es k, W K m h H es σ ∧ f es h k = true ∧ Po K m h H es σ k Q
def PoT (K : PySem.W.Frag) (m : Nat → Addr) (h : Hv) (H : Hp) (es : List D) (σ : L2.St) (k : Bool → Hv → Bool) (Q : Bool → Hp → Prop) : Prop :=
  ∀ b m' h' H', Ext m h H m' h' H' → W K m' h' H' es σ → k b h' = true → Q b H'
def rdT (K : PySem.W.Frag) (f : MT) : TT := fun σ H Q => ∃ m h es k, W K m h H es σ ∧ f es h k = true ∧ PoT K m h H es σ k Q
def PoA (K : PySem.W.Frag) (L : Nat) (m : Nat → Addr) (h : Hv) (H : Hp) (es : List D) (σ : L2.St) (k : List D → Hv → Bool) (Q : List V → Hp → Prop) : Prop :=
  ∀ vs m' h' H' ds, Ext m h H m' h' H' → W K m' h' H' es σ → RDs K m' H' h'.n vs ds → vs.length = L → k ds h' = true → Q vs H'
def rdA (K : PySem.W.Frag) (L : Nat) (f : MEs) : TA := fun σ H Q => ∃ m h es k, W K m h H es σ ∧ f es h k = true ∧ PoA K L m h H es σ k Q

section
variable {X : Cx} {K : PySem.W.Frag} {m m' : Nat → Addr} {h h' : Hv} {H H' : Hp} {es : List D} {σ : L2.St} {v : V} {d : D} {k : KD} {Q : VK} {e a b : Expr} {pos : Pos}
theorem pe_mono {t t' : TE} (h : PE X e t) (hm : ∀ σ H Q, t' σ H Q → t σ H Q) : PE X e t' := ⟨fun pins s σ H Q I w => h.run pins s σ H Q I (hm σ H Q w)⟩
theorem pt_mono {t t' : TT} (h : PT X e t) (hm : ∀ σ H Q, t' σ H Q → t σ H Q) : PT X e t' := ⟨fun pins s σ H Q I w => h.run pins s σ H Q I (hm σ H Q w)⟩
theorem pw_mono {t t' : TT} (h : PW X e t) (hm : ∀ σ H Q, t' σ H Q → t σ H Q) : PW X e t' := ⟨fun wh pins s σ H Q I w => h.run wh pins s σ H Q I (hm σ H Q w)⟩
theorem pa_mono {es : List Expr} {t t' : TA} (h : PA X es t) (hm : ∀ σ H Q, t' σ H Q → t σ H Q) : PA X es t' := ⟨fun pos pins s σ H Q I w => h.run pos pins s σ H Q I (hm σ H Q w)⟩
theorem ps_mono {st : Stmt} {t t' : TS} (h : PS X st t) (hm : ∀ D σ H, t' D σ H → t D σ H) : PS X st t' := ⟨fun pins s σ H D I w => h.run pins s σ H D I (hm D σ H w)⟩
theorem pss_mono {st : List Stmt} {t t' : TS} (h : PSs X st t) (hm : ∀ D σ H, t' D σ H → t D σ H) : PSs X st t' := ⟨fun pins s σ H D I w => h.run pins s σ H D I (hm D σ H w)⟩

theorem Po.mono (p : Po K m h H es σ k Q) (e : Ext m h H m' h' H') : Po K m' h' H' es σ k Q := fun v m2 h2 H2 d e2 => p v m2 h2 H2 d (e.trans e2)
theorem Po.now (p : Po K m h H es σ k Q) (w : W K m h H es σ) (r : RD K m H h.n v d) (q : k d h = true) : Q v H := p v m h H d Ext.refl w r q
theorem PoT.mono {k : Bool → Hv → Bool} {Q : Bool → Hp → Prop} (p : PoT K m h H es σ k Q) (e : Ext m h H m' h' H') : PoT K m' h' H' es σ k Q := fun v m2 h2 H2 e2 => p v m2 h2 H2 (e.trans e2)
theorem PoT.now {k : Bool → Hv → Bool} {Q : Bool → Hp → Prop} {c : Bool} (p : PoT K m h H es σ k Q) (w : W K m h H es σ) (q : k c h = true) : Q c H := p c m h H Ext.refl w q
theorem PoA.mono {L : Nat} {k : List D → Hv → Bool} {Q : List V → Hp → Prop} (p : PoA K L m h H es σ k Q) (e : Ext m h H m' h' H') : PoA K L m' h' H' es σ k Q := fun v m2 h2 H2 d e2 => p v m2 h2 H2 d (e.trans e2)

/-! ### names and constants -/
def eVar (i : Nat) : ME := fun es h k => @D.rec (fun _ => Bool) (fun _ => Bool) (fun n => k (.nat n) h) (fun n => k (.neg n) h) (fun p ds _ => k (.tup p ds) h) (fun ds _ => k (.tpr ds) h) (fun j => k (.ref j) h) (fun a => @At.rec (fun _ => Bool) false (k (.oth .non) h) (fun b => k (.oth (.bl b)) h) (fun x => k (.oth (.str x)) h) a) false (fun _ _ _ _ => false) (gE es i)
theorem eVar_true {i : Nat} (q : eVar i es h k = true) : gE es i ≠ unk ∧ k (gE es i) h = true := by
  unfold eVar at q
  cases e : gE es i with
  | nat n => rw [e] at q; exact ⟨(nomatch ·), q⟩
  | neg n => rw [e] at q; exact ⟨(nomatch ·), q⟩
  | tup p n => rw [e] at q; exact ⟨(nomatch ·), q⟩
  | tpr n => rw [e] at q; exact ⟨(nomatch ·), q⟩
  | ref n => rw [e] at q; exact ⟨(nomatch ·), q⟩
  | oth a =>
    rw [e] at q
    cases a with
    | unk => cases q
    | non => exact ⟨(nomatch ·), q⟩
    | bl b => exact ⟨(nomatch ·), q⟩
    | str x => exact ⟨(nomatch ·), q⟩
theorem ok_var {i : Nat} {x : Str} (hN : X.N[i]? = some x) (hv : Vis X.env.scope x) (hd : (x == ("__debug__" : Str)) = false) (hcd : (x == ("__classdict__" : Str)) = false) : PE X (.Name x pos) (rdE K (eVar i)) := by
  refine pe_mono (pe_var hN hv hd hcd) fun σ H Q => ?_
  rintro ⟨m, h, es, k, w, q, p⟩
  obtain ⟨ne, q⟩ := eVar_true q
  rcases w.sl.2 i with z | ⟨v, e, r⟩
  · exact absurd z ne
  · exact ⟨v, e, p.now w r q⟩
def eCst (d : D) : ME := fun _ h k => k d h
/-- a constant that is the same at each heap -/
theorem ok_cst {t : TE} (hp : PE X e t) (ht : ∀ σ H Q, (∀ v, (∀ m n, RD K m H n v d) → Q v H) → t σ H Q) : PE X e (rdE K (eCst d)) := by
  refine pe_mono hp fun σ H Q => ?_
  rintro ⟨m, h, es, k, w, q, p⟩
  exact ht σ H Q fun v r => p.now w (r m h.n) q

/-! ### ints -/
def dI : Int → D
  | .ofNat n => .nat n
  | .negSucc n => .neg n
theorem rd_dI (i : Int) {n : Nat} : RD K m H n (.int i) (dI i) := by
  cases i with
  | ofNat i => exact .nat i
  | negSucc i => exact .neg i
theorem RD.int_of {n : Nat} {i : Int} (r : RD K m H n v (dI i)) : v = .int i := by
  cases i with
  | ofNat i => cases r; rfl
  | negSucc i => cases r; rfl
def subK (a b : Nat) (h : Hv) (k : KD) : Bool := @Bool.rec (fun _ => Bool) (fN (Nat.pred (Nat.sub b a)) fun n => k (.neg n) h) (fN (Nat.sub a b) fun n => k (.nat n) h) (Nat.ble b a)
theorem subK_eq (a b : Nat) (h : Hv) (k : KD) : subK a b h k = k (dI ((a : Int) - (b : Int))) h := by
  unfold subK
  cases q : Nat.ble b a with
  | true =>
    have l : b ≤ a := Nat.le_of_ble_eq_true q
    have e : (a : Int) - (b : Int) = Int.ofNat (a - b) := by
      show _ = ((a - b : Nat) : Int)
      omega
    rw [e]
    exact fN_eq _ _
  | false =>
    have l : a < b := Nat.lt_of_not_le fun z => by rw [Nat.ble_eq_true_of_le z] at q; cases q
    have e : (a : Int) - (b : Int) = Int.negSucc (b - a - 1) := by
      rw [Int.negSucc_eq]
      omega
    rw [e]
    exact fN_eq _ _
end

/-! ### sequences of the heap -/
def seqR (j : Nat) (h : Hv) (k : List D → Bool) : Bool := look h.m j fun o => @LO.rec (fun _ => Bool) k (fun _ _ => false) false o
def seqOf (d : D) (h : Hv) (k : List D → Bool) : Bool := dc d nF nF (fun _ l => k l) k (fun j => seqR j h k) aF
section
variable {X : Cx} {K : PySem.W.Frag} {m m' : Nat → Addr} {h h' : Hv} {H H' : Hp} {es : List D} {σ : L2.St} {v : V} {d : D} {k : KD} {Q : VK} {e a b : Expr} {pos : Pos} {j : Nat}
theorem seqR_true {k : List D → Bool} (w : HS K m h H) (q : seqR j h k = true) : ∃ ds vs o, lk h.m j = some o ∧ o = .lst ds ∧ k ds = true ∧ H (m j) = some (.lst vs) ∧ RDs K m H h.n vs ds := by
  obtain ⟨o, e, q⟩ := look_true q
  obtain ⟨_, od⟩ := w.obj j o e
  cases o with
  | lst ds => obtain ⟨vs, r, s⟩ := od; exact ⟨ds, vs, _, e, rfl, q, r, s⟩
  | dct ks vs => cases q
  | tin => cases q
/-- the value is a list or a tuple of these -/
theorem seqOf_true {k : List D → Bool} (w : HS K m h H) (r : RD K m H h.n v d) (q : seqOf d h k = true) : ∃ a ds vs, v = .ref a ∧ k ds = true ∧ RDs K m H h.n vs ds ∧ ((∃ j, d = .ref j ∧ H a = some (.lst vs)) ∨ ((d = .tpr ds ∨ ∃ p, d = .tup p ds) ∧ SqT K H a vs)) := by
  cases r with
  | nat i => cases q
  | neg i => cases q
  | tup s r _ _ => exact ⟨_, _, _, rfl, q, r, .inr ⟨.inr ⟨_, rfl⟩, s⟩⟩
  | tpr s r => exact ⟨_, _, _, rfl, q, r, .inr ⟨.inl rfl, s⟩⟩
  | ref j l =>
    obtain ⟨ds, vs, o, e, _, q, hh, r⟩ := seqR_true w q
    exact ⟨_, ds, vs, rfl, q, r, .inl ⟨j, rfl, hh⟩⟩
  | non => cases q
  | bl b => cases q
  | str x _ => cases q

/-! ### two operands -/
def o2 (f : D → D → Hv → KD → Bool) (a b : ME) : ME := fun es h k => a es h fun x h => b es h fun y h => f x y h k
def OpOk (K : PySem.W.Frag) (f : D → D → Hv → KD → Bool) (r : R2) : Prop := ∀ m h H es σ x y dx dy k Q, W K m h H es σ → RD K m H h.n x dx → RD K m H h.n y dy → f dx dy h k = true → Po K m h H es σ k Q → r x y H Q
theorem two_ok {fa fb : ME} {f : D → D → Hv → KD → Bool} {r : R2} (hr : OpOk K f r) : ∀ σ H Q, rdE K (o2 f fa fb) σ H Q → tOp r (rdE K fa) (rdE K fb) σ H Q := by
  rintro σ H Q ⟨m, h, es, k, w, q, p⟩
  refine ⟨m, h, es, _, w, q, fun x m1 h1 H1 dx e1 w1 r1 q1 => ?_⟩
  refine ⟨m1, h1, es, _, w1, q1, fun y m2 h2 H2 dy e2 w2 r2 q2 => ?_⟩
  exact hr m2 h2 H2 es σ x y dx dy k Q w2 (r1.mono e2 w1.hs) r2 q2 (p.mono (e1.trans e2))
theorem ok_bin {op : Operator} {fa fb : ME} {f : D → D → Hv → KD → Bool} {r : R2} (ho : OpR X (binaryOp op) r) (hr : OpOk X.K f r) (ha : PE X a (rdE X.K fa)) (hb : PE X b (rdE X.K fb)) : PE X (.BinOp a op b pos) (rdE X.K (o2 f fa fb)) :=
  pe_mono (pe_op ho ha hb) (two_ok hr)
/-- a comparison as a value -/
theorem ok_cmp {op : CmpOp} {fa fb : ME} {f : D → D → Hv → KD → Bool} {r : R2} (ho : OpR X (compareOp op) r) (hr : OpOk X.K f r) (ha : PE X a (rdE X.K fa)) (hb : PE X b (rdE X.K fb)) (hm : behindInMarks op b = false) : PE X (.Compare a [op] [b] pos) (rdE X.K (o2 f fa fb)) :=
  pe_mono (pe_cmpR ho ha hb hm) (two_ok hr)
end
end Pv
set_option Elab.async false
set_option linter.all false
set_option maxRecDepth 100000
set_option maxHeartbeats 4000000
noncomputable section
namespace Pv
open PySem PySem.Spec PyProof.Rows L2
theorem tuple_mul_same (l : Addr) (items : Array Value) (n : Nat) (dd : Option Addr) (sl : Array (Option Value)) (x : Int) (u : Tok) (c0 : (decide (x < -(2 ^ 63)) || decide (x ≥ 2 ^ 63)) = false) (c1 : (items.isEmpty || x == 1) = true) :
    Meets (Builtin.«tuple.__mul__» ⟨[.ref l, .int x u], []⟩) (fun _ R s => s.heap.get? l = some { cls := .type "tuple", dict := dd, data := .seq items n, slots := sl } ∧
      R (.ok (.ret (Value.ref l))) s) :=
  .of_wp fun prog w A R s h => by
    obtain ⟨hp, g, d, tk, os⟩ := s
    obtain ⟨hl, h⟩ := h
    have f1 := AutoSeq1.idx_int
    wp_walk using wpAny_loadPart' hl
    repeat (first
      | (refine wpAny_ite_false (decide_eq_false (by rw [c0]; exact Bool.false_ne_true)) ?_; wp_walk using wpAny_loadPart' hl)
      | (refine wpAny_ite_true (decide_eq_true c1) ?_; wp_walk using wpAny_loadPart' hl))
    all_goals exact ⟨_, rfl, h⟩
theorem tuple_mul_none (l : Addr) (items : Array Value) (n : Nat) (dd : Option Addr) (sl : Array (Option Value)) (x : Int) (u : Tok) (c0 : (decide (x < -(2 ^ 63)) || decide (x ≥ 2 ^ 63)) = false) (c1 : (items.isEmpty || x == 1) = false) (c2 : (decide (x ≤ 0) || items.isEmpty) = true) :
    Meets (Builtin.«tuple.__mul__» ⟨[.ref l, .int x u], []⟩) (fun _ R s => s.heap.get? l = some { cls := .type "tuple", dict := dd, data := .seq items n, slots := sl } ∧
      R (.ok (.ret (Value.ref s.heap.objs.size))) { s with heap := s.heap.push { cls := Value.type "tuple", data := Data.seq #[] }, toks := s.toks }) :=
  .of_wp fun prog w A R s h => by
    obtain ⟨hp, g, d, tk, os⟩ := s
    obtain ⟨hl, h⟩ := h
    have f1 := AutoSeq1.idx_int
    wp_walk using wpAny_loadPart' hl
    repeat (first
      | (refine wpAny_ite_false (decide_eq_false (by rw [c0]; exact Bool.false_ne_true)) ?_; wp_walk using wpAny_loadPart' hl)
      | (refine wpAny_ite_false (decide_eq_false (by rw [c1]; exact Bool.false_ne_true)) ?_; wp_walk using wpAny_loadPart' hl)
      | (refine wpAny_ite_true (decide_eq_true c2) ?_; wp_walk using wpAny_loadPart' hl))
    all_goals exact ⟨_, rfl, h⟩
/-- t * n -/
def rRepA (K : PySem.W.Frag) : R2 := fun x y H Q => ∃ l k xs, x = .ref l ∧ y = .int k ∧ SqT K H l xs ∧ k ≤ 1000 ∧ -(2 ^ 63) ≤ k ∧ xs.length ≤ 1000 ∧
  ((xs = [] ∨ k = 1) → Q (.ref l) H) ∧ (¬ (xs = [] ∨ k = 1) → ∀ p, H p = none → Q (.ref p) (upd H p (.tup (List.replicate k.toNat xs).flatten)))
section
variable {X : Cx}
theorem op_repA : OpR X (binaryOp .Mult) (rRepA X.K) := by
  intro pins s σ H x y v u Q I rx ry h
  obtain ⟨l, k, xs, rfl, rfl, hT, h2, h1, hz, qs, qn⟩ := h
  by_cases hbig : xs ≠ [] ∧ 2 ≤ k
  · exact op_repT pins s σ H _ _ v u Q I rx ry ⟨l, k, xs, rfl, rfl, hT, hbig.1, hbig.2, h2, hz, qn (fun z => z.elim hbig.1 (by omega))⟩
  cases rx
  obtain ⟨t, rfl⟩ := ry
  obtain ⟨its, r, ht0, hs⟩ := I.tuple hT
  obtain ⟨⟨cls, dd, data, sl⟩, ho, hc, n, hd⟩ := ht0
  simp only at hc hd
  subst hc hd
  have hle : its.length = xs.length := r.length.symm
  have hiff : its.toArray.isEmpty = true ↔ xs = [] := by
    rw [List.isEmpty_toArray, List.isEmpty_iff]
    exact ⟨fun e => List.eq_nil_of_length_eq_zero (by rw [← hle, e]; rfl), fun e => List.eq_nil_of_length_eq_zero (by rw [hle, e]; rfl)⟩
  have c0 : (decide (k < -(2 ^ 63)) || decide (k ≥ 2 ^ 63)) = false := by
    rw [decide_eq_false (by omega), decide_eq_false (by omega)] <;> rfl
  by_cases hsm : xs = [] ∨ k = 1
  · have c1 : (its.toArray.isEmpty || k == 1) = true := by
      rcases hsm with e | e
      · rw [hiff.mpr e]; rfl
      · rw [e]; simp
    exact wpAny_binaryOp_repeat_ref (T := "tuple") (U := "int") (by decide) ⟨_, ho, rfl⟩ (fun s' => typeIs_int s' k t) noFill_tuple_mul F.fills_int_mul F.slot_int_rmul repeat_tuple F.slot_int_index.lookup
      (call_meets F.slot_int_rmul (typeIs_int s k t) F.entry_int_rmul (F.args_int_rmul_2 _ _) (int_rmul_tuple k t l its.toArray n dd sl)
        ⟨ho, rfl, ⟨_, ho, rfl⟩, call_meets F.slot_tuple_mul ⟨_, ho, rfl⟩ F.entry_tuple_mul (F.args_tuple_mul_2 _ _) (tuple_mul_same l its.toArray n dd sl k t c0 c1) ⟨ho, ⟨.ref l, H, I, rfl, qs hsm⟩⟩⟩)
  · have hk : k ≤ 0 := by
      have a1 : ¬ (2 ≤ k) := fun z => hbig ⟨fun e => hsm (.inl e), z⟩
      have a2 : k ≠ 1 := fun e => hsm (.inr e)
      omega
    have he : its.toArray.isEmpty = false := by
      cases q : its.toArray.isEmpty with
      | true => exact absurd (.inl (hiff.mp q)) hsm
      | false => rfl
    have c1 : (its.toArray.isEmpty || k == 1) = false := by
      rw [he, Bool.false_or]
      exact beq_eq_false_iff_ne.mpr (by omega)
    have c2 : (decide (k ≤ 0) || its.toArray.isEmpty) = true := by
      rw [decide_eq_true hk]; rfl
    have q := qn hsm s.heap.objs.size (I.hok.fresh (Nat.le_refl _))
    rw [show k.toNat = 0 by omega] at q
    refine wpAny_binaryOp_repeat_ref (T := "tuple") (U := "int") (by decide) ⟨_, ho, rfl⟩ (fun s' => typeIs_int s' k t) noFill_tuple_mul F.fills_int_mul F.slot_int_rmul repeat_tuple F.slot_int_index.lookup
      (call_meets F.slot_int_rmul (typeIs_int s k t) F.entry_int_rmul (F.args_int_rmul_2 _ _) (int_rmul_tuple k t l its.toArray n dd sl)
        ⟨ho, rfl, ⟨_, ho, rfl⟩, call_meets F.slot_tuple_mul ⟨_, ho, rfl⟩ F.entry_tuple_mul (F.args_tuple_mul_2 _ _) (tuple_mul_none l its.toArray n dd sl k t c0 c1 c2) ⟨ho, ?_⟩⟩)
    refine ⟨.ref s.heap.objs.size, _, I.laid (t' := s.toks) (o := .tup []) (fun b ob q => Heap.get?_push_of_some _ q) (Nat.le_refl _) ?_, rfl, q⟩
    exact ⟨Nat.zero_le _, [], .nil, IsTup.new _ _⟩
end
end Pv
set_option Elab.async false
set_option linter.all false
set_option maxRecDepth 100000
set_option maxHeartbeats 4000000
/-! Arithmetic, comparisons, tests. -/
noncomputable section
namespace Pv
open PySem PySem.Spec PyProof.Rows L2

section
variable {X : Cx} {K : PySem.W.Frag} {m m' : Nat → Addr} {h h' : Hv} {H H' : Hp} {es : List D} {σ : L2.St} {v : V} {d : D} {k : KD} {Q : VK} {e a b : Expr} {pos : Pos} {j : Nat}

/-! ### tuples made -/
theorem mkT_true {ds : List D} {k : D → Bool} (q : mkT ds k = true) : ∃ d, k d = true ∧ ∀ {K : PySem.W.Frag} {m : Nat → Addr} {H : Hp} {n : Nat} {a : Addr} {vs : List V}, SqT K H a vs → RDs K m H n vs ds → RD K m H n (.ref a) d := by
  rcases depA_true q with y | ⟨p, y, _, z⟩
  · exact ⟨_, y, fun s r => .tpr s r⟩
  · rw [fN_eq] at y
    exact ⟨_, y, fun s r => .tup s r (Nat.succ_pos _) fun d hd => let ⟨q, e, l⟩ := z d hd; ⟨q, e, Nat.lt_succ_of_le l⟩⟩
theorem SqT.new {H : Hp} {p : Addr} {vs : List V} : SqT K (upd H p (.tup vs)) p vs := .inl (.inl upd_same)
/-- a new tuple is laid: what follows -/
theorem Po.newTup (p : Po K m h H es σ k Q) (w : W K m h H es σ) {vs : List V} {ds : List D} (r : RDs K m H h.n vs ds) (hd : ∀ {K : PySem.W.Frag} {m : Nat → Addr} {H : Hp} {n : Nat} {a : Addr} {vs : List V}, SqT K H a vs → RDs K m H n vs ds → RD K m H n (.ref a) d) (q : k d h = true)
    (a : Addr) (na : H a = none) : Q (.ref a) (upd H a (.tup vs)) := by
  obtain ⟨w', ex⟩ := w.hs.fresh (ho := .tup vs) na
  exact p _ m h _ d ex (w.mono ex w') (hd SqT.new (r.mono ex w.hs)) q
/-- a new list is laid -/
theorem Po.newLst (p : Po K m h H es σ k Q) (w : W K m h H es σ) {vs : List V} {ds : List D} (r : RDs K m H h.n vs ds) (q : alloc (.lst ds) h k = true) (a : Addr) (na : H a = none) : Q (.ref a) (upd H a (.lst vs)) := by
  rw [alloc_eq] at q
  have od : OD K (fun j => if j = h.n then a else m j) (upd H a (.lst vs)) (h.n + 1) a (.lst ds) := by
    refine ⟨vs, upd_same, ?_⟩
    have ex : Ext m ⟨h.n, []⟩ H (fun j => if j = h.n then a else m j) ⟨h.n + 1, []⟩ (upd H a (.lst vs)) := by
      refine ⟨Nat.le_succ _, fun j hj => if_neg (Nat.ne_of_lt hj), fun b ob e _ => ⟨?_, fun j z => (nomatch z)⟩, fun j z => (nomatch z)⟩
      rw [upd_ne (ne_of_none e na)]; exact e
    exact r.mono (h := ⟨h.n, []⟩) (h' := ⟨h.n + 1, []⟩) ex ⟨fun j o z => (nomatch z), fun i j z => (nomatch z), List.Pairwise.nil⟩
  obtain ⟨w', ex⟩ := w.hs.alloc na od
  have rr : RD K (fun j => if j = h.n then a else m j) (upd H a (.lst vs)) (h.n + 1) (.ref ((fun j => if j = h.n then a else m j) h.n)) (.ref h.n) := .ref h.n (Nat.lt_succ_self _)
  have e : (fun j => if j = h.n then a else m j) h.n = a := if_pos rfl
  rw [e] at rr
  exact p _ _ _ _ _ ex (w.mono ex w') rr q

/-! ### + -/
def fits (a b : List D) : Bool := Nat.ble (Nat.add (lenL a) (lenL b)) 16777216
theorem fits_ok {a b : List D} (q : fits a b = true) : a.length + b.length ≤ sizeLine := by
  have z := Nat.le_of_ble_eq_true q
  rw [lenL_eq, lenL_eq] at z
  rw [sizeLine_eq]
  exact z
def addTT (a b : List D) (k : D → Bool) : Bool := bsel (fits a b) (mkT (catL a b) k) false
def addTP (p q : Nat) (a b : List D) (k : D → Bool) : Bool := bsel (fits a b) (k (.tup (bsel (Nat.ble p q) q p) (catL a b))) false
def addD (x y : D) (h : Hv) (k : KD) : Bool := dc x
  (fun i => dc y (fun j => fN (Nat.add i j) fun n => k (.nat n) h) (fun j => subK i (Nat.succ j) h k) pF lF nF aF)
  (fun i => dc y (fun j => subK j (Nat.succ i) h k) (fun j => fN (Nat.succ (Nat.add i j)) fun n => k (.neg n) h) pF lF nF aF)
  (fun p a => dc y nF nF (fun q b => addTP p q a b fun d => k d h) (fun b => addTT a b fun d => k d h) nF aF)
  (fun a => dc y nF nF (fun _ b => addTT a b fun d => k d h) (fun b => addTT a b fun d => k d h) nF aF)
  (fun i => dc y nF nF pF lF (fun j => seqR i h fun a => seqR j h fun b => bsel (fits a b) (alloc (.lst (catL a b)) h k) false) aF) aF
def rAdd (K : PySem.W.Frag) : R2 := fun x y H Q => rI0 (fun i j => .int (i + j)) x y H Q ∨ rCatA K x y H Q ∨ rCat x y H Q
theorem bsel_true {b : Bool} {x y : Bool} (q : bsel b x y = true) : (b = true ∧ x = true) ∨ (b = false ∧ y = true) := by
  cases b with
  | true => exact .inl ⟨rfl, q⟩
  | false => exact .inr ⟨rfl, q⟩
theorem bsel_tf {b : Bool} {x : Bool} (q : bsel b x false = true) : b = true ∧ x = true := by
  rcases bsel_true q with z | ⟨_, z⟩
  · exact z
  · cases z
theorem dI_nat (n : Nat) : D.nat n = dI (n : Int) := rfl
theorem dI_neg (n : Nat) : D.neg n = dI (Int.negSucc n) := rfl
/-- the end of a rule on two ints -/
theorem rI0_now {g : Int → Int → V} {i j : Int} (h : Q (g i j) H) : rI0 g (.int i) (.int j) H Q := ⟨i, j, rfl, rfl, h⟩
theorem catA_now {w : W K m h H es σ} (p : Po K m h H es σ k Q) {a b : Addr} {xs ys : List V} {da db : List D} {d : D} (ha : SqT K H a xs) (hb : SqT K H b ys) (ra : RDs K m H h.n xs da) (rb : RDs K m H h.n ys db) (hz : da.length + db.length ≤ sizeLine)
    (hd : ∀ {K : PySem.W.Frag} {m : Nat → Addr} {H : Hp} {n : Nat} {a : Addr} {vs : List V}, SqT K H a vs → RDs K m H n vs (da ++ db) → RD K m H n (.ref a) d) (q : k d h = true) : rCatA K (.ref a) (.ref b) H Q := by
  refine ⟨a, b, xs, ys, rfl, rfl, ha, hb, by rw [ra.length, rb.length]; exact hz, fun e => ?_, fun e1 e2 => ?_, fun e1 e2 l nl => p.newTup w (ra.append rb) hd q l nl⟩
  · subst e
    exact p.now w (hd hb (ra.append rb)) q
  · subst e2
    have rr := ra.append rb
    rw [List.append_nil] at rr
    exact p.now w (hd ha rr) q
theorem addD_ok : OpOk K addD (rAdd K) := by
  intro m h H es σ x y dx dy k Q w rx ry q p
  cases rx with
  | nat i =>
    cases ry with
    | nat j =>
      refine .inl (rI0_now (p.now (d := .nat (i + j)) w (.nat _) ?_))
      have q' : fN (i + j) (fun n => k (.nat n) h) = true := q
      rw [fN_eq] at q'; exact q'
    | neg j =>
      refine .inl (rI0_now (p.now w (rd_dI _) ?_))
      have q' : subK i (j + 1) h k = true := q
      rw [subK_eq] at q'
      rw [show (Int.ofNat i + Int.negSucc j : Int) = (i : Int) - ((j + 1 : Nat) : Int) by simp only [Int.ofNat_eq_natCast]; omega]
      exact q'
    | _ => cases q
  | neg i =>
    cases ry with
    | nat j =>
      refine .inl (rI0_now (p.now w (rd_dI _) ?_))
      have q' : subK j (i + 1) h k = true := q
      rw [subK_eq] at q'
      rw [show (Int.negSucc i + Int.ofNat j : Int) = (j : Int) - ((i + 1 : Nat) : Int) by simp only [Int.ofNat_eq_natCast]; omega]
      exact q'
    | neg j =>
      refine .inl (rI0_now (p.now (d := .neg (i + j + 1)) w ?_ ?_))
      · rw [show (Int.negSucc i + Int.negSucc j : Int) = Int.negSucc (i + j + 1) by omega]
        exact .neg _
      · have q' : fN (i + j + 1) (fun n => k (.neg n) h) = true := q
        rw [fN_eq] at q'; exact q'
    | _ => cases q
  | tup sa ra za pa =>
    rename_i a pp xs da
    cases ry with
    | tup sb rb zb pb =>
      rename_i b qq ys db
      obtain ⟨q1, q2⟩ := bsel_tf (show bsel (fits da db) (k (.tup (bsel (Nat.ble pp qq) qq pp) (catL da db)) h) false = true from q)
      rw [catL_eq] at q2
      refine .inr (.inl (catA_now (w := w) p sa sb ra rb (fits_ok q1) (fun s r => .tup s r ?_ fun d hd => ?_) q2))
      · cases e2 : Nat.ble pp qq with
        | true => exact zb
        | false => exact za
      rcases List.mem_append.mp hd with hd | hd
      · obtain ⟨z, e, l⟩ := pa d hd
        refine ⟨z, e, Nat.lt_of_lt_of_le l ?_⟩
        cases e2 : Nat.ble pp qq with
        | true => exact Nat.le_of_ble_eq_true e2
        | false => exact Nat.le_refl _
      · obtain ⟨z, e, l⟩ := pb d hd
        refine ⟨z, e, Nat.lt_of_lt_of_le l ?_⟩
        cases e2 : Nat.ble pp qq with
        | true => exact Nat.le_refl _
        | false =>
          show qq ≤ pp
          exact Nat.le_of_lt (Nat.lt_of_not_le fun z => by rw [Nat.ble_eq_true_of_le z] at e2; cases e2)
    | tpr sb rb =>
      rename_i b ys db
      obtain ⟨q1, q2⟩ := bsel_tf (show bsel (fits da db) (mkT (catL da db) fun d => k d h) false = true from q)
      obtain ⟨d, q3, hd⟩ := mkT_true q2
      rw [catL_eq] at hd
      exact .inr (.inl (catA_now (w := w) p sa sb ra rb (fits_ok q1) hd q3))
    | _ => cases q
  | tpr sa ra =>
    rename_i a xs da
    cases ry with
    | tup sb rb zb pb =>
      rename_i b qq ys db
      obtain ⟨q1, q2⟩ := bsel_tf (show bsel (fits da db) (mkT (catL da db) fun d => k d h) false = true from q)
      obtain ⟨d, q3, hd⟩ := mkT_true q2
      rw [catL_eq] at hd
      exact .inr (.inl (catA_now (w := w) p sa sb ra rb (fits_ok q1) hd q3))
    | tpr sb rb =>
      rename_i b ys db
      obtain ⟨q1, q2⟩ := bsel_tf (show bsel (fits da db) (mkT (catL da db) fun d => k d h) false = true from q)
      obtain ⟨d, q3, hd⟩ := mkT_true q2
      rw [catL_eq] at hd
      exact .inr (.inl (catA_now (w := w) p sa sb ra rb (fits_ok q1) hd q3))
    | _ => cases q
  | ref i li =>
    cases ry with
    | ref j lj =>
      have q' : seqR i h (fun a => seqR j h fun b => bsel (fits a b) (alloc (.lst (catL a b)) h k) false) = true := q
      obtain ⟨da, xs, oa, _, _, q1, ha, ra⟩ := seqR_true w.hs q'
      obtain ⟨db, ys, ob, _, _, q2, hb, rb⟩ := seqR_true w.hs q1
      obtain ⟨q3, q4⟩ := bsel_tf q2
      rw [catL_eq] at q4
      refine .inr (.inr ⟨m i, m j, xs, ys, rfl, rfl, ha, hb, by rw [ra.length, rb.length]; exact fits_ok q3, fun l nl => p.newLst w (ra.append rb) q4 l nl⟩)
    | _ => cases q
  | _ => cases q
theorem opr_add : OpR X (binaryOp .Add) (rAdd X.K) := op_add.or (op_catA.or op_cat)

/-! ### - -/
def subD (x y : D) (h : Hv) (k : KD) : Bool := dc x
  (fun i => dc y (fun j => subK i j h k) (fun j => fN (Nat.succ (Nat.add i j)) fun n => k (.nat n) h) pF lF nF aF)
  (fun i => dc y (fun j => fN (Nat.add i j) fun n => k (.neg n) h) (fun j => subK j i h k) pF lF nF aF)
  pF lF nF aF
theorem subD_ok : OpOk K subD (rI0 fun i j => .int (i - j)) := by
  intro m h H es σ x y dx dy k Q w rx ry q p
  cases rx with
  | nat i =>
    cases ry with
    | nat j =>
      refine rI0_now (p.now w (rd_dI _) ?_)
      have q' : subK i j h k = true := q
      rw [subK_eq] at q'
      exact q'
    | neg j =>
      refine rI0_now (p.now (d := .nat (i + j + 1)) w ?_ ?_)
      · rw [show (Int.ofNat i - Int.negSucc j : Int) = Int.ofNat (i + j + 1) by simp only [Int.ofNat_eq_natCast]; omega]
        exact .nat _
      · have q' : fN (i + j + 1) (fun n => k (.nat n) h) = true := q
        rw [fN_eq] at q'; exact q'
    | _ => cases q
  | neg i =>
    cases ry with
    | nat j =>
      refine rI0_now (p.now (d := .neg (i + j)) w ?_ ?_)
      · rw [show (Int.negSucc i - Int.ofNat j : Int) = Int.negSucc (i + j) by simp only [Int.ofNat_eq_natCast]; omega]
        exact .neg _
      · have q' : fN (i + j) (fun n => k (.neg n) h) = true := q
        rw [fN_eq] at q'; exact q'
    | neg j =>
      refine rI0_now (p.now w (rd_dI _) ?_)
      have q' : subK j i h k = true := q
      rw [subK_eq] at q'
      rw [show (Int.negSucc i - Int.negSucc j : Int) = (j : Int) - (i : Int) by omega]
      exact q'
    | _ => cases q
  | _ => cases ry <;> cases q

/-! ### * -/
/-- bounds are powers of 2: the kernel has no quick log2 -/
@[irreducible] def cap (n : Nat) : Nat := Nat.pow 2 n
theorem cap_eq (n : Nat) : cap n = 2 ^ n := by unfold cap; rfl
theorem log2_cap {x n : Nat} (h : Nat.ble x (cap n) = true) : x.log2 ≤ n := by
  have l : x ≤ 2 ^ n := by rw [← cap_eq]; exact Nat.le_of_ble_eq_true h
  by_cases e : x = 0
  · rw [e]; exact Nat.zero_le _
  · exact Nat.le_of_lt_succ ((Nat.log2_lt e).mpr (Nat.lt_of_le_of_lt l (Nat.pow_lt_pow_right (by omega) (Nat.lt_succ_self n))))
def capM : Nat := cap 400000
theorem log2_capM {x : Nat} (h : Nat.ble x capM = true) : x.log2 ≤ 400000 := log2_cap h
def mulOkN (i j : Nat) : Bool := Nat.ble (Nat.add i j) capM
theorem mulOkN_log {i j : Nat} (q : mulOkN i j = true) : i.log2 ≤ 400000 ∧ j.log2 ≤ 400000 := by
  have l : i + j ≤ capM := Nat.le_of_ble_eq_true q
  exact ⟨log2_capM (Nat.ble_eq_true_of_le (Nat.le_trans (Nat.le_add_right _ _) l)), log2_capM (Nat.ble_eq_true_of_le (Nat.le_trans (Nat.le_add_left _ _) l))⟩
theorem mulOkN_ok {i j : Int} (q : mulOkN i.natAbs j.natAbs = true) : CMulW i j := by
  obtain ⟨z1, z2⟩ := mulOkN_log q
  unfold CMulW
  omega
def rep1 (a : List D) (j : Nat) (k : List D → Bool) : Bool := bsel (Nat.ble j 1000) (bsel (Nat.ble (lenL a) 1000) (k (repL a j)) false) false
def repLs (a : List D) (j : Nat) (h : Hv) (k : KD) : Bool := bsel (Nat.ble (Nat.mul (lenL a) j) 16777216) (alloc (.lst (repL a j)) h k) false
def mulD (x y : D) (h : Hv) (k : KD) : Bool := dc x
  (fun i => dc y (fun j => bsel (mulOkN i j) (fN (Nat.mul i j) fun n => k (.nat n) h) false) (fun j => bsel (mulOkN i (Nat.succ j)) (subK 0 (Nat.mul i (Nat.succ j)) h k) false) pF lF nF aF)
  (fun i => dc y (fun j => bsel (mulOkN (Nat.succ i) j) (subK 0 (Nat.mul (Nat.succ i) j) h k) false) (fun j => bsel (mulOkN (Nat.succ i) (Nat.succ j)) (fN (Nat.mul (Nat.succ i) (Nat.succ j)) fun n => k (.nat n) h) false) pF lF nF aF)
  (fun p a => dc y (fun j => rep1 a j fun b => k (.tup p b) h) (fun j => rep1 a 0 fun b => bsel (Nat.ble j 1000) (@List.rec D (fun _ => Bool) (k (.tup p []) h) (fun _ _ _ => k (.tup p []) h) a) false) pF lF nF aF)
  lF (fun i => dc y (fun j => seqR i h fun a => bsel (Nat.ble j 16777216) (repLs a j h k) false) (fun j => bsel (Nat.ble j 1000) (seqR i h fun a => alloc (.lst []) h k) false) pF lF nF aF) aF
def rMul (K : PySem.W.Frag) : R2 := fun x y H Q => rI CMulW (fun i j => .int (i * j)) x y H Q ∨ rRepA K x y H Q ∨ rRep x y H Q
theorem opr_mul : OpR X (binaryOp .Mult) (rMul X.K) := op_mulW.or (op_repA.or op_rep)
theorem mem_rep {ds : List D} {d : D} : ∀ {j : Nat}, d ∈ (List.replicate j ds).flatten → d ∈ ds
  | 0, h => nomatch h
  | j + 1, h => by
    rw [List.replicate_succ, List.flatten_cons] at h
    rcases List.mem_append.mp h with h | h
    · exact h
    · exact mem_rep h
theorem mulD_ok : OpOk K mulD (rMul K) := by
  intro m h H es σ x y dx dy k Q w rx ry q p
  cases rx with
  | nat i =>
    cases ry with
    | nat j =>
      obtain ⟨q1, q2⟩ := bsel_tf (show bsel (mulOkN i j) (fN (i * j) fun n => k (.nat n) h) false = true from q)
      rw [fN_eq] at q2
      refine .inl ⟨_, _, rfl, rfl, mulOkN_ok (i := Int.ofNat i) (j := Int.ofNat j) q1, p.now (d := .nat (i * j)) w ?_ q2⟩
      show RD K m H h.n (.int (Int.ofNat i * Int.ofNat j)) _
      rw [show (Int.ofNat i * Int.ofNat j : Int) = Int.ofNat (i * j) from rfl]
      exact .nat _
    | neg j =>
      obtain ⟨q1, q2⟩ := bsel_tf (show bsel (mulOkN i (j + 1)) (subK 0 (i * (j + 1)) h k) false = true from q)
      rw [subK_eq] at q2
      refine .inl ⟨_, _, rfl, rfl, mulOkN_ok (i := Int.ofNat i) (j := Int.negSucc j) q1, p.now w (rd_dI _) ?_⟩
      rw [show (Int.ofNat i * Int.negSucc j : Int) = ((0 : Nat) : Int) - ((i * (j + 1) : Nat) : Int) by
        rw [Int.negSucc_eq, Int.mul_neg]; push_cast; simp]
      exact q2
    | _ => cases q
  | neg i =>
    cases ry with
    | nat j =>
      obtain ⟨q1, q2⟩ := bsel_tf (show bsel (mulOkN (i + 1) j) (subK 0 ((i + 1) * j) h k) false = true from q)
      rw [subK_eq] at q2
      refine .inl ⟨_, _, rfl, rfl, mulOkN_ok (i := Int.negSucc i) (j := Int.ofNat j) q1, p.now w (rd_dI _) ?_⟩
      rw [show (Int.negSucc i * Int.ofNat j : Int) = ((0 : Nat) : Int) - (((i + 1) * j : Nat) : Int) by
        rw [Int.negSucc_eq, Int.neg_mul]; push_cast; simp]
      exact q2
    | neg j =>
      obtain ⟨q1, q2⟩ := bsel_tf (show bsel (mulOkN (i + 1) (j + 1)) (fN ((i + 1) * (j + 1)) fun n => k (.nat n) h) false = true from q)
      rw [fN_eq] at q2
      refine .inl ⟨_, _, rfl, rfl, mulOkN_ok (i := Int.negSucc i) (j := Int.negSucc j) q1, p.now (d := .nat ((i + 1) * (j + 1))) w ?_ q2⟩
      show RD K m H h.n (.int (Int.negSucc i * Int.negSucc j)) _
      rw [show (Int.negSucc i * Int.negSucc j : Int) = Int.ofNat ((i + 1) * (j + 1)) by
        rw [Int.negSucc_eq, Int.negSucc_eq, Int.neg_mul_neg]; push_cast; rfl]
      exact .nat _
    | _ => cases q
  | tup sa ra za pa =>
    rename_i a pp xs da
    cases ry with
    | nat j =>
      obtain ⟨q1, q2⟩ := bsel_tf (show bsel (Nat.ble j 1000) (bsel (Nat.ble (lenL da) 1000) (k (.tup pp (repL da j)) h) false) false = true from q)
      obtain ⟨q3, q4⟩ := bsel_tf q2
      rw [repL_eq] at q4
      have z1 := Nat.le_of_ble_eq_true q1
      have z3 := Nat.le_of_ble_eq_true q3
      rw [lenL_eq] at z3
      have hd : ∀ {K : PySem.W.Frag} {m : Nat → Addr} {H : Hp} {n : Nat} {a : Addr} {vs : List V}, SqT K H a vs → RDs K m H n vs (List.replicate j da).flatten → RD K m H n (.ref a) (.tup pp (List.replicate j da).flatten) := fun s r => .tup s r za fun d hd => pa d (mem_rep hd)
      refine .inr (.inl ⟨a, (j : Int), xs, rfl, rfl, sa, by omega, by omega, by rw [ra.length]; exact z3, fun e => ?_, fun _ l nl => ?_⟩)
      · refine p.now w (hd sa ?_) q4
        rcases e with e | e
        · have e2 := (ra.nil_iff).mp e
          subst e2
          rw [show (List.replicate j ([] : List D)).flatten = [] from by simp]
          exact ra
        · have e2 : j = 1 := by omega
          subst e2
          rw [show (List.replicate 1 da).flatten = da by simp]
          exact ra
      · have hr := ra.rep j
        exact p.newTup w hr hd q4 l nl
    | neg j =>
      obtain ⟨q1, q2⟩ := bsel_tf (show bsel (Nat.ble 0 1000) (bsel (Nat.ble (lenL da) 1000) (bsel (Nat.ble j 1000) (@List.rec D (fun _ => Bool) (k (.tup pp []) h) (fun _ _ _ => k (.tup pp []) h) da) false) false) false = true from q)
      obtain ⟨q3, q4⟩ := bsel_tf q2
      obtain ⟨q5, q6⟩ := bsel_tf q4
      have z3 := Nat.le_of_ble_eq_true q3
      have z5 := Nat.le_of_ble_eq_true q5
      rw [lenL_eq] at z3
      have q7 : k (.tup pp []) h = true := by
        cases da with
        | nil => exact q6
        | cons x y => exact q6
      refine .inr (.inl ⟨a, Int.negSucc j, xs, rfl, rfl, sa, by omega, by omega, by rw [ra.length]; exact z3, fun e => ?_, fun _ l nl => ?_⟩)
      · rcases e with e | e
        · have e2 := (ra.nil_iff).mp e
          subst e2
          exact p.now w (.tup sa ra za fun _ z => nomatch z) q7
        · omega
      · rw [show (Int.negSucc j).toNat = 0 from rfl]
        exact p.newTup w .nil (fun s r => .tup s r za fun _ z => nomatch z) q7 l nl
    | _ => cases q
  | tpr sa ra => cases q
  | ref i li =>
    cases ry with
    | nat j =>
      have q' : seqR i h (fun a => bsel (Nat.ble j 16777216) (repLs a j h k) false) = true := q
      obtain ⟨da, xs, oa, _, _, q1, ha, ra⟩ := seqR_true w.hs q'
      obtain ⟨q2, q3⟩ := bsel_tf q1
      obtain ⟨q4, q5⟩ := bsel_tf (show bsel (Nat.ble (lenL da * j) 16777216) (alloc (.lst (repL da j)) h k) false = true from q3)
      have z2 := Nat.le_of_ble_eq_true q2
      have z4 := Nat.le_of_ble_eq_true q4
      rw [lenL_eq] at z4
      rw [repL_eq] at q5
      refine .inr (.inr ⟨m i, (j : Int), xs, rfl, rfl, ha, by omega, by omega, by rw [ra.length, sizeLine_eq]; exact z4, fun l nl => ?_⟩)
      have hr := ra.rep j
      exact p.newLst w hr q5 l nl
    | neg j =>
      obtain ⟨q1, q2⟩ := bsel_tf (show bsel (Nat.ble j 1000) (seqR i h fun a => alloc (.lst []) h k) false = true from q)
      obtain ⟨da, xs, oa, _, _, q3, ha, ra⟩ := seqR_true w.hs q2
      have z1 := Nat.le_of_ble_eq_true q1
      refine .inr (.inr ⟨m i, Int.negSucc j, xs, rfl, rfl, ha, by omega, by omega, ?_, fun l nl => ?_⟩)
      · rw [show (Int.negSucc j).toNat = 0 from rfl, Nat.mul_zero]; exact Nat.zero_le _
      · rw [show (Int.negSucc j).toNat = 0 from rfl]
        exact p.newLst w .nil q3 l nl
    | _ => cases q
  | _ => cases q
end
end Pv
set_option Elab.async false
set_option linter.all false
set_option maxRecDepth 100000
set_option maxHeartbeats 4000000
/-! Division, shifts, comparisons, equality, membership. -/
noncomputable section
namespace Pv
open PySem PySem.Spec PyProof.Rows L2

section
variable {X : Cx} {K : PySem.W.Frag} {m m' : Nat → Addr} {h h' : Hv} {H H' : Hp} {es : List D} {σ : L2.St} {v : V} {d : D} {k : KD} {Q : VK} {e a b : Expr} {pos : Pos} {j : Nat}

/-! ### %, // -/
def modD (x y : D) (h : Hv) (k : KD) : Bool := dc x
  (fun i => dc y (fun j => bsel (Nat.ble 1 j) (fN (Nat.mod i j) fun n => k (.nat n) h) false) nF pF lF nF aF)
  (fun i => dc y (fun j => bsel (Nat.ble 1 j) (fN (Nat.sub (Nat.pred j) (Nat.mod i j)) fun n => k (.nat n) h) false) nF pF lF nF aF)
  pF lF nF aF
theorem fmod_neg (i j : Nat) (hj : 1 ≤ j) : (Int.negSucc i).fmod (Int.ofNat j) = Int.ofNat (j - 1 - i % j) := by
  obtain ⟨j, rfl⟩ : ∃ z, j = z + 1 := ⟨j - 1, by omega⟩
  have l : i % (j + 1) < j + 1 := Nat.mod_lt _ (Nat.succ_pos _)
  show Int.subNatNat (j + 1) (i % (j + 1) + 1) = _
  rw [Int.subNatNat_of_le (by omega)]
  show ((j + 1 - (i % (j + 1) + 1) : Nat) : Int) = ((j + 1 - 1 - i % (j + 1) : Nat) : Int)
  omega
theorem modD_ok : OpOk K modD (rI (fun _ j => j ≠ 0) fun i j => .int (i.fmod j)) := by
  intro m h H es σ x y dx dy k Q w rx ry q p
  cases rx with
  | nat i =>
    cases ry with
    | nat j =>
      obtain ⟨q1, q2⟩ := bsel_tf (show bsel (Nat.ble 1 j) (fN (i % j) fun n => k (.nat n) h) false = true from q)
      rw [fN_eq] at q2
      have z := Nat.le_of_ble_eq_true q1
      refine ⟨_, _, rfl, rfl, (by intro e; have e2 : (j : Int) = 0 := e; omega), p.now (d := .nat (i % j)) w ?_ q2⟩
      show RD K m H h.n (.int (Int.fmod (Int.ofNat i) (Int.ofNat j))) _
      rw [show Int.fmod (Int.ofNat i) (Int.ofNat j) = Int.ofNat (i % j) by
        cases i with
        | zero => show (0 : Int) = Int.ofNat (0 % j); rw [Nat.zero_mod]; rfl
        | succ i => rfl]
      exact .nat _
    | _ => cases q
  | neg i =>
    cases ry with
    | nat j =>
      obtain ⟨q1, q2⟩ := bsel_tf (show bsel (Nat.ble 1 j) (fN (j - 1 - i % j) fun n => k (.nat n) h) false = true from q)
      rw [fN_eq] at q2
      have z := Nat.le_of_ble_eq_true q1
      refine ⟨_, _, rfl, rfl, (by intro e; have e2 : (j : Int) = 0 := e; omega), p.now (d := .nat (j - 1 - i % j)) w ?_ q2⟩
      show RD K m H h.n (.int ((Int.negSucc i).fmod (Int.ofNat j))) _
      rw [fmod_neg i j z]
      exact .nat _
    | _ => cases q
  | _ => cases ry <;> cases q
def rDiv : R2 := fun x y H Q => rI CDivW (fun i j => .int (i / j)) x y H Q ∨ rI CDivN (fun i j => .int (i.fdiv j)) x y H Q
theorem opr_div : OpR X (binaryOp .FloorDiv) rDiv := op_fdivW.or op_fdivN
def capD : Nat := cap 8998
def divOkN (j : Nat) : Bool := bsel (Nat.ble 1 j) (Nat.ble j capD) false
def divD (x y : D) (h : Hv) (k : KD) : Bool := dc x
  (fun i => dc y (fun j => bsel (divOkN j) (fN (Nat.div i j) fun n => k (.nat n) h) false)
    (fun j => bsel (Nat.blt (Nat.succ j) 1073741824) (@Nat.rec (fun _ => Bool) (k (.nat 0) h) (fun i _ => fN (Nat.div i (Nat.succ j)) fun n => k (.neg n) h) i) false) pF lF nF aF)
  (fun i => dc y (fun j => bsel (divOkN j) (fN (Nat.div i j) fun n => k (.neg n) h) false)
    (fun j => bsel (Nat.blt (Nat.succ j) 1073741824) (fN (Nat.div (Nat.succ i) (Nat.succ j)) fun n => k (.nat n) h) false) pF lF nF aF)
  pF lF nF aF
theorem divOkN_ok {i : Int} {j : Nat} (q : divOkN j = true) : CDivW i (Int.ofNat j) := by
  obtain ⟨q1, q2⟩ := bsel_tf q
  have z1 := Nat.le_of_ble_eq_true q1
  have z2 : j.log2 ≤ 8998 := log2_cap q2
  refine ⟨?_, ?_⟩
  · show (0 : Int) < (j : Int)
    omega
  · show (Int.natAbs (Int.ofNat j)).log2 < 9000
    rw [show Int.natAbs (Int.ofNat j) = j from rfl]
    omega
theorem divD_ok : OpOk K divD rDiv := by
  intro m h H es σ x y dx dy k Q w rx ry q p
  cases rx with
  | nat i =>
    cases ry with
    | nat j =>
      obtain ⟨q1, q2⟩ := bsel_tf (show bsel (divOkN j) (fN (i / j) fun n => k (.nat n) h) false = true from q)
      rw [fN_eq] at q2
      refine .inl ⟨_, _, rfl, rfl, divOkN_ok q1, p.now (d := .nat (i / j)) w ?_ q2⟩
      show RD K m H h.n (.int (Int.ofNat i / Int.ofNat j)) _
      rw [show (Int.ofNat i / Int.ofNat j : Int) = Int.ofNat (i / j) from rfl]
      exact .nat _
    | neg j =>
      obtain ⟨q1, q2⟩ := bsel_tf (show bsel (Nat.blt (j + 1) 1073741824) (@Nat.rec (fun _ => Bool) (k (.nat 0) h) (fun i _ => fN (i / (j + 1)) fun n => k (.neg n) h) i) false = true from q)
      have z1 : j + 1 + 1 ≤ 1073741824 := Nat.le_of_ble_eq_true q1
      have hc : CDivN (Int.ofNat i) (Int.negSucc j) := ⟨(by intro e; cases e), (by rw [show (Int.negSucc j).natAbs = j + 1 from rfl]; omega)⟩
      cases i with
      | zero =>
        refine .inr ⟨_, _, rfl, rfl, hc, p.now (d := .nat 0) w ?_ q2⟩
        show RD K m H h.n (.int (Int.fdiv (Int.ofNat 0) (Int.negSucc j))) _
        rw [show Int.fdiv (Int.ofNat 0) (Int.negSucc j) = Int.ofNat 0 from rfl]
        exact .nat _
      | succ i =>
        have q3 : fN (i / (j + 1)) (fun n => k (.neg n) h) = true := q2
        rw [fN_eq] at q3
        refine .inr ⟨_, _, rfl, rfl, hc, p.now (d := .neg (i / (j + 1))) w ?_ q3⟩
        show RD K m H h.n (.int (Int.fdiv (Int.ofNat (i + 1)) (Int.negSucc j))) _
        rw [show Int.fdiv (Int.ofNat (i + 1)) (Int.negSucc j) = Int.negSucc (i / (j + 1)) from rfl]
        exact .neg _
    | _ => cases q
  | neg i =>
    cases ry with
    | nat j =>
      obtain ⟨q1, q2⟩ := bsel_tf (show bsel (divOkN j) (fN (i / j) fun n => k (.neg n) h) false = true from q)
      rw [fN_eq] at q2
      have z1 := Nat.le_of_ble_eq_true (bsel_tf q1).1
      obtain ⟨j, rfl⟩ : ∃ z, j = z + 1 := ⟨j - 1, by omega⟩
      refine .inl ⟨_, _, rfl, rfl, divOkN_ok q1, p.now (d := .neg (i / (j + 1))) w ?_ q2⟩
      show RD K m H h.n (.int (Int.negSucc i / Int.ofNat (j + 1))) _
      rw [show (Int.negSucc i / Int.ofNat (j + 1) : Int) = Int.negSucc (i / (j + 1)) from rfl]
      exact .neg _
    | neg j =>
      obtain ⟨q1, q2⟩ := bsel_tf (show bsel (Nat.blt (j + 1) 1073741824) (fN ((i + 1) / (j + 1)) fun n => k (.nat n) h) false = true from q)
      rw [fN_eq] at q2
      have z1 : j + 1 + 1 ≤ 1073741824 := Nat.le_of_ble_eq_true q1
      refine .inr ⟨_, _, rfl, rfl, ⟨(by intro e; cases e), (by rw [show (Int.negSucc j).natAbs = j + 1 from rfl]; omega)⟩, p.now (d := .nat ((i + 1) / (j + 1))) w ?_ q2⟩
      show RD K m H h.n (.int (Int.fdiv (Int.negSucc i) (Int.negSucc j))) _
      rw [show Int.fdiv (Int.negSucc i) (Int.negSucc j) = Int.ofNat ((i + 1) / (j + 1)) from rfl]
      exact .nat _
    | _ => cases q
  | _ => cases ry <;> cases q

/-! ### shifts, & 1 -/
def shlD (x y : D) (h : Hv) (k : KD) : Bool := dc x
  (fun i => dc y (fun j => bsel (bsel (Nat.ble i capM) (Nat.ble j 500000) false) (fN (Nat.mul i (Nat.pow 2 j)) fun n => k (.nat n) h) false) nF pF lF nF aF) nF pF lF nF aF
theorem shlD_ok : OpOk K shlD (rI CShl fun i j => .int (i * 2 ^ j.toNat)) := by
  intro m h H es σ x y dx dy k Q w rx ry q p
  cases rx with
  | nat i =>
    cases ry with
    | nat j =>
      obtain ⟨q0, q2⟩ := bsel_tf (show bsel (bsel (Nat.ble i capM) (Nat.ble j 500000) false) (fN (i * 2 ^ j) fun n => k (.nat n) h) false = true from q)
      rw [fN_eq] at q2
      obtain ⟨q3, q1⟩ := bsel_tf q0
      have z1 := Nat.le_of_ble_eq_true q1
      have z3 := log2_capM q3
      have hs : CShl (Int.ofNat i) (Int.ofNat j) := shl_ok (i := Int.ofNat i) (j := j) (n := i.log2 + 1) (by
        show i < 2 ^ (i.log2 + 1)
        by_cases h0 : i = 0
        · subst h0; decide
        · exact (Nat.log2_lt h0).mp (Nat.lt_succ_self _)) (by omega)
      refine ⟨_, _, rfl, rfl, hs, p.now (d := .nat (i * 2 ^ j)) w ?_ q2⟩
      show RD K m H h.n (.int (Int.ofNat i * 2 ^ (Int.ofNat j).toNat)) _
      rw [show (Int.ofNat i * 2 ^ (Int.ofNat j).toNat : Int) = Int.ofNat (i * 2 ^ j) by
        show ((i : Nat) : Int) * 2 ^ j = ((i * 2 ^ j : Nat) : Int)
        push_cast; rfl]
      exact .nat _
    | _ => cases q
  | _ => cases ry <;> cases q
def shrD (x y : D) (h : Hv) (k : KD) : Bool := dc x
  (fun i => dc y (fun j => fN (Nat.shiftRight i j) fun n => k (.nat n) h) nF pF lF nF aF) nF pF lF nF aF
theorem shrD_ok : OpOk K shrD (rI (fun _ j => 0 ≤ j) fun i j => .int (i / 2 ^ j.toNat)) := by
  intro m h H es σ x y dx dy k Q w rx ry q p
  cases rx with
  | nat i =>
    cases ry with
    | nat j =>
      have q2 : fN (i >>> j) (fun n => k (.nat n) h) = true := q
      rw [fN_eq] at q2
      refine ⟨_, _, rfl, rfl, Int.natCast_nonneg j, p.now (d := .nat (i >>> j)) w ?_ q2⟩
      show RD K m H h.n (.int (Int.ofNat i / 2 ^ (Int.ofNat j).toNat)) _
      rw [show (Int.ofNat i / 2 ^ (Int.ofNat j).toNat : Int) = Int.ofNat (i >>> j) by
        show ((i : Nat) : Int) / 2 ^ j = ((i >>> j : Nat) : Int)
        rw [Nat.shiftRight_eq_div_pow]
        push_cast; rfl]
      exact .nat _
    | _ => cases q
  | _ => cases ry <;> cases q
def and1D (x y : D) (h : Hv) (k : KD) : Bool := dc x
  (fun i => dc y (fun j => bsel (Nat.beq j 1) (fN (Nat.mod i 2) fun n => k (.nat n) h) false) nF pF lF nF aF) nF pF lF nF aF
theorem and1D_ok : OpOk K and1D (fun x y H Q => ∃ n : Nat, x = .int (n : Int) ∧ y = .int 1 ∧ Q (.int ((n % 2 : Nat) : Int)) H) := by
  intro m h H es σ x y dx dy k Q w rx ry q p
  cases rx with
  | nat i =>
    cases ry with
    | nat j =>
      obtain ⟨q1, q2⟩ := bsel_tf (show bsel (Nat.beq j 1) (fN (i % 2) fun n => k (.nat n) h) false = true from q)
      rw [fN_eq] at q2
      have e := Nat.eq_of_beq_eq_true q1
      subst e
      exact ⟨i, rfl, rfl, p.now (d := .nat (i % 2)) w (.nat _) q2⟩
    | _ => cases q
  | _ => cases ry <;> cases q

/-! ### one operand -/
def TE1 := V → Hp → VK → Prop
def o1 (f : D → Hv → KD → Bool) (a : ME) : ME := fun es h k => a es h fun x h => f x h k
def Op1Ok (K : PySem.W.Frag) (f : D → Hv → KD → Bool) (r : V → Hp → VK → Prop) : Prop := ∀ m h H es σ x dx k Q, W K m h H es σ → RD K m H h.n x dx → f dx h k = true → Po K m h H es σ k Q → r x H Q
theorem one_ok {fa : ME} {f : D → Hv → KD → Bool} {r : V → Hp → VK → Prop} (hr : Op1Ok K f r) : ∀ σ H Q, rdE K (o1 f fa) σ H Q → rdE K fa σ H fun x H1 => r x H1 Q := by
  rintro σ H Q ⟨m, h, es, k, w, q, p⟩
  refine ⟨m, h, es, _, w, q, fun x m1 h1 H1 dx e1 w1 r1 q1 => ?_⟩
  exact hr m1 h1 H1 es σ x dx k Q w1 r1 q1 (p.mono e1)
def negD (x : D) (h : Hv) (k : KD) : Bool := dc x (fun i => subK 0 i h k) (fun i => fN (Nat.succ i) fun n => k (.nat n) h) pF lF nF aF
theorem negD_ok : Op1Ok K negD (rU fun i => .int (-i)) := by
  intro m h H es σ x dx k Q w rx q p
  cases rx with
  | nat i =>
    have q' : subK 0 i h k = true := q
    rw [subK_eq] at q'
    refine ⟨_, rfl, p.now w (rd_dI _) ?_⟩
    rw [show (-(Int.ofNat i) : Int) = ((0 : Nat) : Int) - (i : Int) by simp only [Int.ofNat_eq_natCast]; omega]
    exact q'
  | neg i =>
    have q' : fN (i + 1) (fun n => k (.nat n) h) = true := q
    rw [fN_eq] at q'
    exact ⟨_, rfl, p.now (d := .nat (i + 1)) w (.nat _) q'⟩
  | _ => cases q
theorem ok_neg {fa : ME} (ha : PE X a (rdE X.K fa)) : PE X (.UnaryOp .USub a pos) (rdE X.K (o1 negD fa)) := pe_mono (pe_un un_neg ha) (one_ok negD_ok)

/-! ### comparisons -/
def t2 (g : D → D → Hv → (Bool → Hv → Bool) → Bool) (a b : ME) : MT := fun es h k => a es h fun x h => b es h fun y h => g x y h k
def TpOk (K : PySem.W.Frag) (g : D → D → Hv → (Bool → Hv → Bool) → Bool) (r : R2) : Prop := ∀ m h H es σ x y dx dy k Q, W K m h H es σ → RD K m H h.n x dx → RD K m H h.n y dy → g dx dy h k = true →
  (∀ c m' h' H', Ext m h H m' h' H' → W K m' h' H' es σ → k c h' = true → Q (.bl c) H') → r x y H Q
def eT (t : MT) : ME := fun es h k => t es h fun b h => k (.oth (.bl b)) h
theorem ok_tcmp {op : CmpOp} {fa fb : ME} {g : D → D → Hv → (Bool → Hv → Bool) → Bool} {r : R2} (ho : OpR X (compareOp op) r) (hr : TpOk X.K g r) (ha : PE X a (rdE X.K fa)) (hb : PE X b (rdE X.K fb)) (hm : behindInMarks op b = false) : PT X (.Compare a [op] [b] pos) (rdT X.K (t2 g fa fb)) := by
  refine pt_mono (pt_cmpR ho ha hb hm) ?_
  rintro σ H Q ⟨m, h, es, k, w, q, p⟩
  refine ⟨m, h, es, _, w, q, fun x m1 h1 H1 dx e1 w1 r1 q1 => ?_⟩
  refine ⟨m1, h1, es, _, w1, q1, fun y m2 h2 H2 dy e2 w2 r2 q2 => ?_⟩
  refine hr m2 h2 H2 es σ x y dx dy k _ w2 (r1.mono e2 w1.hs) r2 q2 fun c m3 h3 H3 e3 w3 q3 => ⟨c, rfl, p c m3 h3 H3 ((e1.trans e2).trans e3) w3 q3⟩
theorem ok_ecmp {op : CmpOp} {fa fb : ME} {g : D → D → Hv → (Bool → Hv → Bool) → Bool} {r : R2} (ho : OpR X (compareOp op) r) (hr : TpOk X.K g r) (ha : PE X a (rdE X.K fa)) (hb : PE X b (rdE X.K fb)) (hm : behindInMarks op b = false) : PE X (.Compare a [op] [b] pos) (rdE X.K (eT (t2 g fa fb))) := by
  refine pe_mono (pe_cmpR ho ha hb hm) ?_
  rintro σ H Q ⟨m, h, es, k, w, q, p⟩
  refine ⟨m, h, es, _, w, q, fun x m1 h1 H1 dx e1 w1 r1 q1 => ?_⟩
  refine ⟨m1, h1, es, _, w1, q1, fun y m2 h2 H2 dy e2 w2 r2 q2 => ?_⟩
  exact hr m2 h2 H2 es σ x y dx dy _ _ w2 (r1.mono e2 w1.hs) r2 q2 fun c m3 h3 H3 e3 w3 q3 => p _ m3 h3 H3 _ ((e1.trans e2).trans e3) w3 (.bl c) q3
def kB (k : Bool → Hv → Bool) (h : Hv) (b : Bool) : Bool := bsel b (k true h) (k false h)
theorem kB_true {k : Bool → Hv → Bool} {b : Bool} (q : kB k h b = true) : k b h = true := by
  cases b with
  | true => exact q
  | false => exact q
def cmpD (f : Nat → Nat → Bool) (np pn : Bool) (x y : D) (h : Hv) (k : Bool → Hv → Bool) : Bool := dc x
  (fun i => dc y (fun j => kB k h (f i j)) (fun _ => k np h) pF lF nF aF)
  (fun i => dc y (fun _ => k pn h) (fun j => kB k h (f j i)) pF lF nF aF) pF lF nF aF
def ltD := cmpD Nat.blt false true
def leD := cmpD Nat.ble false true
def gtD := cmpD (fun i j => Nat.blt j i) true false
def geD := cmpD (fun i j => Nat.ble j i) true false
theorem cmpD_ok {f : Nat → Nat → Bool} {np pn : Bool} {g : Int → Int → Bool} (h1 : ∀ i j : Nat, f i j = g (Int.ofNat i) (Int.ofNat j)) (h2 : ∀ i j : Nat, np = g (Int.ofNat i) (Int.negSucc j)) (h3 : ∀ i j : Nat, pn = g (Int.negSucc i) (Int.ofNat j)) (h4 : ∀ i j : Nat, f j i = g (Int.negSucc i) (Int.negSucc j)) : TpOk K (cmpD f np pn) (rI0 fun i j => .bl (g i j)) := by
  intro m h H es σ x y dx dy k Q w rx ry q p
  cases rx with
  | nat i =>
    cases ry with
    | nat j =>
      have q' := kB_true (show kB k h (f i j) = true from q)
      refine rI0_now (g := fun i j => .bl (g i j)) (p _ m h H Ext.refl w ?_)
      rw [← h1]; exact q'
    | neg j =>
      have q' : k np h = true := q
      refine rI0_now (g := fun i j => .bl (g i j)) (p _ m h H Ext.refl w ?_)
      rw [← h2]; exact q'
    | _ => cases q
  | neg i =>
    cases ry with
    | nat j =>
      have q' : k pn h = true := q
      refine rI0_now (g := fun i j => .bl (g i j)) (p _ m h H Ext.refl w ?_)
      rw [← h3]; exact q'
    | neg j =>
      have q' := kB_true (show kB k h (f j i) = true from q)
      refine rI0_now (g := fun i j => .bl (g i j)) (p _ m h H Ext.refl w ?_)
      rw [← h4]; exact q'
    | _ => cases q
  | _ => cases ry <;> cases q
theorem blt_dec (i j : Nat) : Nat.blt i j = decide (i < j) := by
  by_cases q : i < j
  · rw [decide_eq_true q]; exact Nat.ble_eq_true_of_le q
  · rw [decide_eq_false q]
    cases e : Nat.blt i j with
    | false => rfl
    | true => exact absurd (Nat.le_of_ble_eq_true e) q
theorem ble_dec (i j : Nat) : Nat.ble i j = decide (i ≤ j) := by
  by_cases q : i ≤ j
  · rw [decide_eq_true q]; exact Nat.ble_eq_true_of_le q
  · rw [decide_eq_false q]
    cases e : Nat.ble i j with
    | false => rfl
    | true => exact absurd (Nat.le_of_ble_eq_true e) q
theorem dec_congr {p q : Prop} [Decidable p] [Decidable q] (h : p ↔ q) : decide p = decide q := by
  by_cases z : p
  · rw [decide_eq_true z, decide_eq_true (h.mp z)]
  · rw [decide_eq_false z, decide_eq_false (fun y => z (h.mpr y))]
theorem ltD_ok : TpOk K ltD (rI0 fun i j => .bl (decide (i < j))) := cmpD_ok (g := fun i j => decide (i < j))
  (fun i j => by rw [blt_dec]; exact dec_congr (by simp only [Int.ofNat_eq_natCast]; omega)) (fun i j => (decide_eq_false (by simp only [Int.ofNat_eq_natCast]; omega)).symm) (fun i j => (decide_eq_true (by simp only [Int.ofNat_eq_natCast]; omega)).symm) (fun i j => by rw [blt_dec]; exact dec_congr (by omega))
theorem leD_ok : TpOk K leD (rI0 fun i j => .bl (decide (i ≤ j))) := cmpD_ok (g := fun i j => decide (i ≤ j))
  (fun i j => by rw [ble_dec]; exact dec_congr (by simp only [Int.ofNat_eq_natCast]; omega)) (fun i j => (decide_eq_false (by simp only [Int.ofNat_eq_natCast]; omega)).symm) (fun i j => (decide_eq_true (by simp only [Int.ofNat_eq_natCast]; omega)).symm) (fun i j => by rw [ble_dec]; exact dec_congr (by omega))
theorem gtD_ok : TpOk K gtD (rI0 fun i j => .bl (decide (j < i))) := cmpD_ok (g := fun i j => decide (j < i))
  (fun i j => by rw [blt_dec]; exact dec_congr (by simp only [Int.ofNat_eq_natCast]; omega)) (fun i j => (decide_eq_true (by simp only [Int.ofNat_eq_natCast]; omega)).symm) (fun i j => (decide_eq_false (by simp only [Int.ofNat_eq_natCast]; omega)).symm) (fun i j => by rw [blt_dec]; exact dec_congr (by omega))
theorem geD_ok : TpOk K geD (rI0 fun i j => .bl (decide (j ≤ i))) := cmpD_ok (g := fun i j => decide (j ≤ i))
  (fun i j => by rw [ble_dec]; exact dec_congr (by simp only [Int.ofNat_eq_natCast]; omega)) (fun i j => (decide_eq_true (by simp only [Int.ofNat_eq_natCast]; omega)).symm) (fun i j => (decide_eq_false (by simp only [Int.ofNat_eq_natCast]; omega)).symm) (fun i j => by rw [ble_dec]; exact dec_congr (by omega))
end
end Pv
set_option Elab.async false
set_option linter.all false
set_option maxRecDepth 100000
set_option maxHeartbeats 4000000
/-! Equality and membership of data without lists. -/
noncomputable section
namespace Pv
open PySem PySem.Spec PyProof.Rows L2

mutual
def py : D → PyData
  | .nat n => .int (Int.ofNat n)
  | .neg n => .int (Int.negSucc n)
  | .tup _ ds => .tuple (pys ds)
  | .tpr _ => .none
  | .ref _ => .none
  | .oth .unk => .none
  | .oth .non => .none
  | .oth (.bl b) => .bool b
  | .oth (.str x) => .str ⟨x.toArray⟩
def pys : List D → List PyData
  | [] => []
  | d :: ds => py d :: pys ds
end
mutual
inductive Pd : D → Nat → Prop
  | nat (n : Nat) : Pd (.nat n) 0
  | neg (n : Nat) : Pd (.neg n) 0
  | non : Pd (.oth .non) 0
  | bl (b : Bool) : Pd (.oth (.bl b)) 0
  | str (x : List Nat) : (∀ c ∈ x, c < 0x110000) → Pd (.oth (.str x)) 0
  | tup {p : Nat} {ds : List D} : 0 < p → PdS ds p → Pd (.tup p ds) p
inductive PdS : List D → Nat → Prop
  | nil {p : Nat} : PdS [] p
  | cons {p q : Nat} {d : D} {ds : List D} : Pd d q → q < p → PdS ds p → PdS (d :: ds) p
end
theorem PdS.mono {ds : List D} {p p' : Nat} (l : p ≤ p') : PdS ds p → PdS ds p'
  | .nil => .nil
  | .cons a b c => .cons a (Nat.lt_of_lt_of_le b l) (PdS.mono l c)
section
variable {X : Cx} {K : PySem.W.Frag} {m m' : Nat → Addr} {h h' : Hv} {H H' : Hp} {es : List D} {σ : L2.St} {v : V} {d : D} {k : KD} {Q : VK} {e a b : Expr} {pos : Pos} {j n : Nat}
mutual
theorem RD.pd : ∀ {v : V} {d : D} {q : Nat}, RD K m H n v d → dpt d = some q → Pd d q
  | _, _, _, .nat i, e => by cases e; exact .nat i
  | _, _, _, .neg i, e => by cases e; exact .neg i
  | _, _, _, .tup s r y z, e => by cases e; exact .tup y (RDs.pd r z)
  | _, _, _, .tpr s r, e => by cases e
  | _, _, _, .ref j q, e => by cases e
  | _, _, _, .non, e => by cases e; exact .non
  | _, _, _, .bl b, e => by cases e; exact .bl b
  | _, _, _, .str x z, e => by cases e; exact .str x z
theorem RDs.pd : ∀ {vs : List V} {ds : List D} {p : Nat}, RDs K m H n vs ds → (∀ d ∈ ds, ∃ q, dpt d = some q ∧ q < p) → PdS ds p
  | _, _, _, .nil, _ => .nil
  | _, _, _, .cons r s, z => by
    obtain ⟨q, e, l⟩ := z _ List.mem_cons_self
    exact .cons (RD.pd r e) l (RDs.pd s fun d hd => z d (List.mem_cons_of_mem _ hd))
end
mutual
theorem RD.dp : ∀ {v : V} {d : D} {q : Nat}, RD K m H n v d → Pd d q → Dp K H v (py d)
  | _, _, _, .nat i, _ => by rw [py]; exact .int _
  | _, _, _, .neg i, _ => by rw [py]; exact .int _
  | _, _, _, .tup s r y z, e => by
    cases e with
    | tup _ e =>
      rw [py]
      exact .tup s (RDs.dp r e)
  | _, _, _, .tpr s r, e => by cases e
  | _, _, _, .ref j q, e => by cases e
  | _, _, _, .non, _ => by rw [py]; exact .non
  | _, _, _, .bl b, _ => by rw [py]; exact .bl b
  | _, _, _, .str x z, _ => by rw [py]; exact .str _
theorem RDs.dp : ∀ {vs : List V} {ds : List D} {p : Nat}, RDs K m H n vs ds → PdS ds p → DpAll K H vs (pys ds)
  | _, _, _, .nil, _ => by rw [pys]; exact .nil
  | _, _, _, .cons r s, e => by
    cases e with
    | cons a _ c =>
      rw [pys]
      exact .cons (RD.dp r a) (RDs.dp s c)
end
mutual
theorem Pd.lay : ∀ {d : D} {q : Nat}, Pd d q → (py d).canLay0 = true ∧ (py d).depth ≤ q
  | _, _, .nat i => ⟨by simp [py, PyData.canLay0], by simp [py, PyData.depth]⟩
  | _, _, .neg i => ⟨by simp [py, PyData.canLay0], by simp [py, PyData.depth]⟩
  | _, _, .non => ⟨by simp [py, PyData.canLay0], by simp [py, PyData.depth]⟩
  | _, _, .bl b => ⟨by simp [py, PyData.canLay0], by simp [py, PyData.depth]⟩
  | _, _, .str x z => by
    refine ⟨?_, by simp [py, PyData.depth]⟩
    rw [py, PyData.canLay0]
    unfold PyData.strOk
    rw [Array.all_eq_true']
    intro c hc
    exact decide_eq_true (z c (by simpa using hc))
  | _, _, .tup y e => by
    obtain ⟨a, b⟩ := PdS.lay e y
    refine ⟨?_, ?_⟩
    · rw [py, PyData.canLay0]; exact a
    · rw [py, PyData.depth]
      omega
theorem PdS.lay : ∀ {ds : List D} {p : Nat}, PdS ds p → 0 < p → PyData.canLayAll0 (pys ds) = true ∧ PyData.depthAll (pys ds) < p
  | _, _, .nil, y => ⟨by simp [pys, PyData.canLayAll0], by simp [pys, PyData.depthAll]; exact y⟩
  | _, _, .cons a l c, y => by
    obtain ⟨h1, h2⟩ := Pd.lay a
    obtain ⟨h3, h4⟩ := PdS.lay c y
    refine ⟨?_, ?_⟩
    · rw [pys, PyData.canLayAll0, h1, h3]; rfl
    · rw [pys, PyData.depthAll]
      omega
end

theorem eqL_nil : eqL [] [] = true := rfl
theorem eqL_nc (y : D) (b : List D) : eqL [] (y :: b) = false := rfl
theorem eqL_cn (x : D) (a : List D) : eqL (x :: a) [] = false := rfl
theorem eqL_cc (x y : D) (a b : List D) : eqL (x :: a) (y :: b) = bsel (eqD x y) (eqL a b) false := rfl
theorem eqD_tup (p q : Nat) (a b : List D) : eqD (.tup p a) (.tup q b) = eqL a b := rfl
theorem beq_dec (i j : Nat) : Nat.beq i j = decide (i = j) := by
  by_cases q : i = j
  · subst q; rw [decide_eq_true rfl, Nat.beq_refl]
  · rw [decide_eq_false q]
    cases e : Nat.beq i j with
    | false => rfl
    | true => exact absurd (Nat.eq_of_beq_eq_true e) q
theorem beq_dec' (i j : Int) : (i == j) = decide (i = j) := by
  by_cases q : i = j
  · subst q; simp
  · rw [decide_eq_false q]; simpa using q
theorem listEqN_eq : ∀ a b : List Nat, listEqN a b = decide (a = b)
  | [], [] => by simp [listEqN]
  | [], _ :: _ => by simp [listEqN]
  | _ :: _, [] => by simp [listEqN]
  | x :: a, y :: b => by
    show bsel (Nat.beq x y) (listEqN a b) false = _
    rw [beq_dec, listEqN_eq a b]
    by_cases h1 : x = y
    · subst h1
      by_cases h2 : a = b
      · subst h2; simp
      · simp [h2]
    · simp [h1]
theorem str_beq (a b : List Nat) : ((⟨a.toArray⟩ : Str) == ⟨b.toArray⟩) = decide (a = b) := by
  by_cases h : a = b
  · subst h
    rw [decide_eq_true rfl]
    exact beq_self_eq_true _
  · rw [decide_eq_false h]
    exact beq_eq_false_iff_ne.mpr fun e => h (by injection e with e1; simpa using congrArg Array.toList e1)
theorem b01_eq (b : Bool) (j : Nat) : Nat.beq (b01 b) j = decide ((if b = true then (1 : Int) else 0) = Int.ofNat j) := by
  rw [beq_dec]
  cases b with
  | true => exact dec_congr (by show 1 = j ↔ (if true = true then (1 : Int) else 0) = (j : Int); rw [if_pos rfl]; omega)
  | false => exact dec_congr (by show 0 = j ↔ (if false = true then (1 : Int) else 0) = (j : Int); rw [if_neg Bool.false_ne_true]; omega)
theorem nn_eq (i j : Nat) : Nat.beq i j = (Int.ofNat i == Int.ofNat j) := by
  rw [beq_dec, beq_dec']
  exact dec_congr (by simp only [Int.ofNat_eq_natCast]; omega)
theorem gg_eq (i j : Nat) : Nat.beq i j = (Int.negSucc i == Int.negSucc j) := by
  rw [beq_dec, beq_dec']
  exact dec_congr (by omega)
theorem ng_eq (i j : Nat) : false = (Int.ofNat i == Int.negSucc j) := by
  rw [beq_dec']
  exact (decide_eq_false (by simp only [Int.ofNat_eq_natCast]; omega)).symm
theorem gn_eq (i j : Nat) : false = (Int.negSucc i == Int.ofNat j) := by
  rw [beq_dec']
  exact (decide_eq_false (by simp only [Int.ofNat_eq_natCast]; omega)).symm
theorem bn_eq (b : Bool) (j : Nat) : Nat.beq (b01 b) j = ((if b = true then 1 else 0) == Int.ofNat j) := by rw [b01_eq, beq_dec']
theorem nb_eq (b : Bool) (j : Nat) : Nat.beq (b01 b) j = (Int.ofNat j == (if b = true then 1 else 0)) := by
  rw [b01_eq, beq_dec']
  exact dec_congr ⟨Eq.symm, Eq.symm⟩
theorem bg_eq (b : Bool) (j : Nat) : false = ((if b = true then 1 else 0) == Int.negSucc j) := by
  rw [beq_dec']
  cases b <;> simp <;> omega
theorem gb_eq (b : Bool) (j : Nat) : false = (Int.negSucc j == (if b = true then 1 else 0)) := by
  rw [beq_dec']
  cases b <;> simp <;> omega
theorem bb_eq (a b : Bool) : eqAt (.bl a) (.bl b) = (a == b) := by cases a <;> cases b <;> rfl
mutual
theorem eqD_eqv : ∀ {d e : D} {q q' : Nat}, Pd d q → Pd e q' → eqD d e = PyData.eqv (py d) (py e)
  | _, _, _, _, .nat i, r => by
    cases r <;> simp only [py, PyData.eqv] <;> first | rfl | exact nn_eq _ _ | exact ng_eq _ _ | exact nb_eq _ _
  | _, _, _, _, .neg i, r => by
    cases r <;> simp only [py, PyData.eqv] <;> first | rfl | exact gg_eq _ _ | exact gn_eq _ _ | exact gb_eq _ _
  | _, _, _, _, .tup y z, r => by
    cases r with
    | tup y' z' =>
      simp only [py, PyData.eqv]
      exact eqL_eqv z z'
    | _ => simp only [py, PyData.eqv] <;> rfl
  | _, _, _, _, .non, r => by
    cases r <;> simp only [py, PyData.eqv] <;> rfl
  | _, _, _, _, .bl b, r => by
    cases r <;> simp only [py, PyData.eqv] <;> first | rfl | exact bn_eq _ _ | exact bg_eq _ _ | exact bb_eq _ _
  | _, _, _, _, .str x z, r => by
    cases r <;> simp only [py, PyData.eqv] <;> first | rfl | (rw [str_beq]; exact listEqN_eq _ _)
theorem eqL_eqv : ∀ {a b : List D} {p p' : Nat}, PdS a p → PdS b p' → eqL a b = PyData.eqvAll (pys a) (pys b)
  | _, _, _, _, .nil, r => by
    cases r <;> simp only [pys, PyData.eqvAll] <;> rfl
  | _, _, _, _, .cons x _ s, r => by
    cases r with
    | nil => simp only [pys, PyData.eqvAll]; rfl
    | cons x' _ s' =>
      simp only [pys, PyData.eqvAll]
      rw [eqL_cc, eqD_eqv x x', eqL_eqv s s']
      cases PyData.eqv (py _) (py _) <;> rfl
end
end
end Pv
set_option Elab.async false
set_option linter.all false
set_option maxRecDepth 100000
set_option maxHeartbeats 4000000
/-! ==, !=, in, not in, is None; tests; displays; calls of built-ins by values. -/
noncomputable section
namespace Pv
open PySem PySem.Spec PyProof.Rows L2
section
variable {X : Cx} {K : PySem.W.Frag} {m m' : Nat → Addr} {h h' : Hv} {H H' : Hp} {es : List D} {σ : L2.St} {v : V} {d : D} {k : KD} {Q : VK} {e a b : Expr} {pos : Pos} {j n : Nat}

def prK (x : D) (k : Bool) : Bool := dc x (fun _ => k) (fun _ => k) (fun p _ => bsel (Nat.ble p 60) k false) lF nF (fun a => @At.rec (fun _ => Bool) false k (fun _ => k) (fun _ => k) a)
theorem prK_true {x : D} {k : Bool} (q : prK x k = true) : k = true ∧ ∃ p, dpt x = some p ∧ p ≤ 60 := by
  cases x with
  | nat i => exact ⟨q, 0, rfl, by omega⟩
  | neg i => exact ⟨q, 0, rfl, by omega⟩
  | tup p ds =>
    obtain ⟨q1, q2⟩ := bsel_tf (show bsel (Nat.ble p 60) k false = true from q)
    exact ⟨q2, p, rfl, Nat.le_of_ble_eq_true q1⟩
  | tpr ds => cases q
  | ref j => cases q
  | oth a =>
    cases a with
    | unk => cases q
    | non => exact ⟨q, 0, rfl, by omega⟩
    | bl b => exact ⟨q, 0, rfl, by omega⟩
    | str x => exact ⟨q, 0, rfl, by omega⟩
def purL (ds : List D) (k : Bool) : Bool := depA ds 0 (fun p => bsel (Nat.ble p 60) k false) false
theorem purL_true {ds : List D} {k : Bool} (q : purL ds k = true) : k = true ∧ ∀ d ∈ ds, ∃ p, dpt d = some p ∧ p < 61 := by
  rcases depA_true q with z | ⟨p, y, _, z⟩
  · cases z
  · obtain ⟨q1, q2⟩ := bsel_tf y
    have l := Nat.le_of_ble_eq_true q1
    exact ⟨q2, fun d hd => let ⟨w, e, l2⟩ := z d hd; ⟨w, e, by omega⟩⟩
theorem shaped_of {d : D} {q : Nat} (p : Pd d q) (l : q ≤ 60) : SeqAt.shaped (py d) = true := by
  obtain ⟨h1, h2⟩ := p.lay
  show ((py d).canLay0 && decide ((py d).depth ≤ 64)) = true
  rw [h1, decide_eq_true (by omega)]; rfl
theorem shaped_list {ds : List D} (p : PdS ds 61) : SeqAt.shaped (.list (pys ds)) = true := by
  obtain ⟨h1, h2⟩ := p.lay (by omega)
  have hd : PyData.depth (.list (pys ds)) ≤ 64 := by simp only [PyData.depth]; omega
  have hc : PyData.canLay0 (.list (pys ds)) = true := by simp only [PyData.canLay0]; exact h1
  show (PyData.canLay0 (.list (pys ds)) && decide (PyData.depth (.list (pys ds)) ≤ 64)) = true
  rw [hc, decide_eq_true hd]; rfl
theorem shaped_tuple {ds : List D} (p : PdS ds 61) : SeqAt.shaped (.tuple (pys ds)) = true := by
  obtain ⟨h1, h2⟩ := p.lay (by omega)
  have hd : PyData.depth (.tuple (pys ds)) ≤ 64 := by simp only [PyData.depth]; omega
  have hc : PyData.canLay0 (.tuple (pys ds)) = true := by simp only [PyData.canLay0]; exact h1
  show (PyData.canLay0 (.tuple (pys ds)) && decide (PyData.depth (.tuple (pys ds)) ≤ 64)) = true
  rw [hc, decide_eq_true hd]; rfl

/-! ### ==, != -/
def eqG (neg : Bool) (x y : D) (h : Hv) (k : Bool → Hv → Bool) : Bool :=
  (fun e : Bool => dc x (fun _ => e) (fun _ => e) (fun _ _ => e) lF (fun i => dc y nF nF pF lF (fun j => seqR i h fun a => seqR j h fun b => purL a (purL b (kB k h (bsel neg (bsel (eqL a b) false true) (eqL a b))))) aF) (fun _ => e))
    (prK x (prK y (kB k h (bsel neg (bsel (eqD x y) false true) (eqD x y)))))
def eqH := eqG false
def neH := eqG true
theorem eqG_true {neg : Bool} {x y : D} {k : Bool → Hv → Bool} {vx vy : V} (w : HS K m h H) (rx : RD K m H h.n vx x) (ry : RD K m H h.n vy y) (q : eqG neg x y h k = true) :
    ∃ d e, Dp K H vx d ∧ Dp K H vy e ∧ SeqAt.shaped d = true ∧ SeqAt.shaped e = true ∧ k (bsel neg (!PyData.eqv d e) (PyData.eqv d e)) h = true := by
  have fin : ∀ {c : Bool} {d e : PyData}, c = PyData.eqv d e → kB k h (bsel neg (bsel c false true) c) = true → k (bsel neg (!PyData.eqv d e) (PyData.eqv d e)) h = true := fun {c d e} ec z => by
    have z' := kB_true z
    rw [← ec]
    cases c <;> exact z'
  have pure_ : prK x (prK y (kB k h (bsel neg (bsel (eqD x y) false true) (eqD x y)))) = true → ∃ d e, Dp K H vx d ∧ Dp K H vy e ∧ SeqAt.shaped d = true ∧ SeqAt.shaped e = true ∧ k (bsel neg (!PyData.eqv d e) (PyData.eqv d e)) h = true := fun z => by
    obtain ⟨z1, p1, e1, l1⟩ := prK_true z
    obtain ⟨z2, p2, e2, l2⟩ := prK_true z1
    have a1 := rx.pd e1
    have a2 := ry.pd e2
    exact ⟨_, _, rx.dp a1, ry.dp a2, shaped_of a1 l1, shaped_of a2 l2, fin (eqD_eqv a1 a2) z2⟩
  cases x with
  | nat i => exact pure_ q
  | neg i => exact pure_ q
  | tup p ds => exact pure_ q
  | tpr ds => cases q
  | oth a => exact pure_ q
  | ref i =>
    cases y with
    | ref j =>
      have q' : seqR i h (fun a => seqR j h fun b => purL a (purL b (kB k h (bsel neg (bsel (eqL a b) false true) (eqL a b))))) = true := q
      obtain ⟨da, xs, oa, _, _, q1, ha, ra⟩ := seqR_true w q'
      obtain ⟨db, ys, ob, _, _, q2, hb, rb⟩ := seqR_true w q1
      obtain ⟨q3, p3⟩ := purL_true q2
      obtain ⟨q4, p4⟩ := purL_true q3
      have a1 := ra.pd p3
      have a2 := rb.pd p4
      cases rx
      cases ry
      exact ⟨_, _, .lst (SqL.of ha) (ra.dp a1), .lst (SqL.of hb) (rb.dp a2), shaped_list a1, shaped_list a2, fin (by rw [eqL_eqv a1 a2]; simp only [PyData.eqv]) q4⟩
    | _ => cases q
theorem eqH_ok : TpOk K eqH (rEqD K) := by
  intro m h H es σ x y dx dy k Q w rx ry q p
  obtain ⟨d, e, h1, h2, h3, h4, h5⟩ := eqG_true w.hs rx ry q
  exact ⟨d, e, h1, h2, h3, h4, p _ m h H Ext.refl w h5⟩
theorem neH_ok : TpOk K neH (rNeD K) := by
  intro m h H es σ x y dx dy k Q w rx ry q p
  obtain ⟨d, e, h1, h2, h3, h4, h5⟩ := eqG_true w.hs rx ry q
  exact ⟨d, e, h1, h2, h3, h4, p _ m h H Ext.refl w h5⟩

/-! ### in -/
def rInB (K : PySem.W.Frag) (neg : Bool) : R2 := fun x y H Q => ∃ d ds, Dp K H x d ∧ (Dp K H y (.list ds) ∨ Dp K H y (.tuple ds)) ∧ SeqAt.shaped d = true ∧ PyData.canLayAll0 ds = true ∧ Q (.bl (bsel neg (!ds.any fun z => PyData.eqv z d) (ds.any fun z => PyData.eqv z d))) H
theorem op_inB (hu : X.A.units + 65 < cLine) : OpR X (compareOp .In) (rInB X.K false) := by
  intro pins s σ H x y v u Q I rx ry h
  obtain ⟨d, ds, hd, he, sd, se, q⟩ := h
  obtain ⟨as, r1⟩ := Dp.reads I d x v hd rx
  rcases he with he | he
  · obtain ⟨bs, r2⟩ := Dp.reads I (.list ds) y u he ry
    exact SeqAt.in_list_reads r2 r1 se (SeqAt.canLay_of_shaped sd) (room_in_shaped sd hu) ⟨.bl _, H, I, rfl, q⟩
  · obtain ⟨bs, r2⟩ := Dp.reads I (.tuple ds) y u he ry
    exact SeqAt.in_tuple_reads r2 r1 se (SeqAt.canLay_of_shaped sd) (room_in_shaped sd hu) ⟨.bl _, H, I, rfl, q⟩
theorem op_notInB (hu : X.A.units + 65 < cLine) : OpR X (compareOp .NotIn) (rInB X.K true) := by
  intro pins s σ H x y v u Q I rx ry h
  obtain ⟨d, ds, hd, he, sd, se, q⟩ := h
  obtain ⟨as, r1⟩ := Dp.reads I d x v hd rx
  rcases he with he | he
  · obtain ⟨bs, r2⟩ := Dp.reads I (.list ds) y u he ry
    exact SeqAt.notIn_list_reads r2 r1 se (SeqAt.canLay_of_shaped sd) (room_in_shaped sd hu) ⟨.bl _, H, I, rfl, q⟩
  · obtain ⟨bs, r2⟩ := Dp.reads I (.tuple ds) y u he ry
    exact SeqAt.notIn_tuple_reads r2 r1 se (SeqAt.canLay_of_shaped sd) (room_in_shaped sd hu) ⟨.bl _, H, I, rfl, q⟩
def memL (ds : List D) (x : D) : Bool := @List.rec D (fun _ => Bool) false (fun y _ ih => bsel (eqD y x) true ih) ds
theorem memL_eqv {x : D} {p : Nat} (px : Pd x p) : ∀ {ds : List D} {q : Nat}, PdS ds q → memL ds x = (pys ds).any fun z => PyData.eqv z (py x)
  | _, _, .nil => rfl
  | _, _, .cons r _ s => by
    rw [pys, List.any_cons]
    show bsel (eqD _ x) true (memL _ x) = _
    rw [eqD_eqv r px, memL_eqv px s]
    cases PyData.eqv (py _) (py x) <;> rfl
def inG (neg : Bool) (x y : D) (h : Hv) (k : Bool → Hv → Bool) : Bool := dc y nF nF (fun p ds => bsel (Nat.ble p 60) (prK x (kB k h (bsel neg (bsel (memL ds x) false true) (memL ds x)))) false) lF
  (fun j => seqR j h fun ds => prK x (purL ds (kB k h (bsel neg (bsel (memL ds x) false true) (memL ds x))))) aF
theorem inG_ok {neg : Bool} : TpOk K (inG neg) (rInB K neg) := by
  intro m h H es σ x y dx dy k Q w rx ry q p
  have fin : ∀ {c z : Bool}, c = z → kB k h (bsel neg (bsel c false true) c) = true → Q (.bl (bsel neg (!z) z)) H := fun {c z} ec y => by
    have y' := kB_true y
    rw [← ec]
    refine p _ m h H Ext.refl w ?_
    cases c <;> exact y'
  cases ry with
  | tup s r y0 z =>
    rename_i a pp vs ds
    obtain ⟨q1, q2⟩ := bsel_tf (show bsel (Nat.ble pp 60) (prK dx (kB k h (bsel neg (bsel (memL ds dx) false true) (memL ds dx)))) false = true from q)
    obtain ⟨q3, p1, e1, l1⟩ := prK_true q2
    have a1 := rx.pd e1
    have a2 := r.pd z
    have l := Nat.le_of_ble_eq_true q1
    exact ⟨_, _, rx.dp a1, .inr (.tup s (r.dp a2)), shaped_of a1 l1, (a2.lay y0).1, fin (memL_eqv a1 a2) q3⟩
  | ref j lj =>
    have q' : seqR j h (fun ds => prK dx (purL ds (kB k h (bsel neg (bsel (memL ds dx) false true) (memL ds dx))))) = true := q
    obtain ⟨ds, vs, o, _, _, q1, hh, r⟩ := seqR_true w.hs q'
    obtain ⟨q3, p1, e1, l1⟩ := prK_true q1
    obtain ⟨q4, z⟩ := purL_true q3
    have a1 := rx.pd e1
    have a2 := r.pd z
    exact ⟨_, _, rx.dp a1, .inl (.lst (SqL.of hh) (r.dp a2)), shaped_of a1 l1, (a2.lay (by omega)).1, fin (memL_eqv a1 a2) q4⟩
  | _ => cases q

/-! ### is None -/
def isNon (d : D) : Bool := dc d nF nF pF lF nF (fun a => @At.rec (fun _ => Bool) false true (fun _ => false) (fun _ => false) a)
theorem isNon_eq (r : RD K m H n v d) : isNon d = decide (v = .non) := by
  cases r <;> first | rfl | exact (decide_eq_false (by intro e; cases e)).symm
def tIsN (a : ME) : MT := fun es h k => a es h fun x h => kB k h (isNon x)
def tNotN (a : ME) : MT := fun es h k => a es h fun x h => kB k h (bsel (isNon x) false true)
theorem ok_isN {fa : ME} {jj : Nat} {pos' : Pos} (ha : PE X a (rdE X.K fa)) : PT X (.Compare a [.Is] [.Constant .none jj pos'] pos) (rdT X.K (tIsN fa)) := by
  refine pt_mono (pt_cmp (pc_isN ha)) ?_
  rintro σ H Q ⟨m, h, es, k, w, q, p⟩
  refine ⟨m, h, es, _, w, q, fun x m1 h1 H1 dx e1 w1 r1 q1 => ⟨_, rfl, p _ m1 h1 H1 e1 w1 ?_⟩⟩
  rw [← isNon_eq r1]
  exact kB_true q1
theorem ok_notN {fa : ME} {jj : Nat} {pos' : Pos} (ha : PE X a (rdE X.K fa)) : PT X (.Compare a [.IsNot] [.Constant .none jj pos'] pos) (rdT X.K (tNotN fa)) := by
  refine pt_mono (pt_cmp (pc_notN ha)) ?_
  rintro σ H Q ⟨m, h, es, k, w, q, p⟩
  refine ⟨m, h, es, _, w, q, fun x m1 h1 H1 dx e1 w1 r1 q1 => ⟨_, rfl, p _ m1 h1 H1 e1 w1 ?_⟩⟩
  rw [← isNon_eq r1]
  have z := kB_true q1
  generalize isNon dx = c at z ⊢
  cases c <;> exact z
theorem ok_isN_e {fa : ME} {jj : Nat} {pos' : Pos} (ha : PE X a (rdE X.K fa)) : PE X (.Compare a [.Is] [.Constant .none jj pos'] pos) (rdE X.K (eT (tIsN fa))) := by
  refine pe_mono (pe_cmp (pc_isN ha)) ?_
  rintro σ H Q ⟨m, h, es, k, w, q, p⟩
  refine ⟨m, h, es, _, w, q, fun x m1 h1 H1 dx e1 w1 r1 q1 => p _ m1 h1 H1 _ e1 w1 (.bl _) ?_⟩
  rw [← isNon_eq r1]
  exact kB_true (k := fun b h => k (.oth (.bl b)) h) q1
theorem ok_notN_e {fa : ME} {jj : Nat} {pos' : Pos} (ha : PE X a (rdE X.K fa)) : PE X (.Compare a [.IsNot] [.Constant .none jj pos'] pos) (rdE X.K (eT (tNotN fa))) := by
  refine pe_mono (pe_cmp (pc_notN ha)) ?_
  rintro σ H Q ⟨m, h, es, k, w, q, p⟩
  refine ⟨m, h, es, _, w, q, fun x m1 h1 H1 dx e1 w1 r1 q1 => p _ m1 h1 H1 _ e1 w1 (.bl _) ?_⟩
  rw [← isNon_eq r1]
  have z := kB_true (k := fun b h => k (.oth (.bl b)) h) q1
  generalize isNon dx = c at z ⊢
  cases c <;> exact z

/-! ### tests: a value, and, or, not -/
def blK (d : D) (k : Bool → Bool) : Bool := dc d nF nF pF lF nF (fun a => @At.rec (fun _ => Bool) false false k (fun _ => false) a)
theorem blK_true {k : Bool → Bool} (r : RD K m H n v d) (q : blK d k = true) : ∃ c, v = .bl c ∧ d = .oth (.bl c) ∧ k c = true := by
  cases r with
  | bl c => exact ⟨c, rfl, rfl, q⟩
  | _ => cases q
def tE (a : ME) : MT := fun es h k => a es h fun x h => blK x fun b => k b h
theorem ok_tE {fa : ME} (ha : PE X a (rdE X.K fa)) (he : ∀ whole, isTrue a X.env whole = (do let v ← whole; standAt a.pos; holding [v] (truthy v))) : PT X a (rdT X.K (tE fa)) := by
  refine pt_mono (pt_val ha he) ?_
  rintro σ H Q ⟨m, h, es, k, w, q, p⟩
  refine ⟨m, h, es, _, w, q, fun x m1 h1 H1 dx e1 w1 r1 q1 => ?_⟩
  obtain ⟨c, e, _, q2⟩ := blK_true r1 q1
  exact ⟨c, e, p _ m1 h1 H1 e1 w1 q2⟩
def tAnd (a b : MT) : MT := fun es h k => a es h fun x h => bsel x (b es h k) (k false h)
def tOr (a b : MT) : MT := fun es h k => a es h fun x h => bsel x (k true h) (b es h k)
def tNot (a : MT) : MT := fun es h k => a es h fun x h => bsel x (k false h) (k true h)
theorem and_mono {fa fb : MT} : ∀ σ H Q, rdT K (tAnd fa fb) σ H Q → L2.tAnd (rdT K fa) (rdT K fb) σ H Q := by
  rintro σ H Q ⟨m, h, es, k, w, q, p⟩
  refine ⟨m, h, es, _, w, q, fun c m1 h1 H1 e1 w1 q1 => ?_⟩
  cases c with
  | true =>
    rw [if_pos rfl]
    exact ⟨m1, h1, es, k, w1, q1, p.mono e1⟩
  | false =>
    rw [if_neg Bool.false_ne_true]
    exact p _ m1 h1 H1 e1 w1 q1
theorem or_mono {fa fb : MT} : ∀ σ H Q, rdT K (tOr fa fb) σ H Q → L2.tOr (rdT K fa) (rdT K fb) σ H Q := by
  rintro σ H Q ⟨m, h, es, k, w, q, p⟩
  refine ⟨m, h, es, _, w, q, fun c m1 h1 H1 e1 w1 q1 => ?_⟩
  cases c with
  | true =>
    rw [if_pos rfl]
    exact p _ m1 h1 H1 e1 w1 q1
  | false =>
    rw [if_neg Bool.false_ne_true]
    exact ⟨m1, h1, es, k, w1, q1, p.mono e1⟩
theorem not_mono {fa : MT} : ∀ σ H Q, rdT K (tNot fa) σ H Q → L2.tNot (rdT K fa) σ H Q := by
  rintro σ H Q ⟨m, h, es, k, w, q, p⟩
  refine ⟨m, h, es, _, w, q, fun c m1 h1 H1 e1 w1 q1 => p _ m1 h1 H1 e1 w1 ?_⟩
  cases c with
  | true => exact q1
  | false => exact q1
theorem ok_tNot {fa : MT} (ha : PT X a (rdT X.K fa)) : PT X (.UnaryOp .Not a pos) (rdT X.K (tNot fa)) := pt_mono (pt_not ha) not_mono
/-- .. as values -/
def eAnd (a b : ME) : ME := fun es h k => a es h fun x h => blK x fun c => bsel c (b es h k) (k (.oth (.bl false)) h)
def eOr (a b : ME) : ME := fun es h k => a es h fun x h => blK x fun c => bsel c (k (.oth (.bl true)) h) (b es h k)
def eNot (a : ME) : ME := fun es h k => a es h fun x h => blK x fun c => bsel c (k (.oth (.bl false)) h) (k (.oth (.bl true)) h)
variable {rest : List Expr}
theorem ok_eAnd {fa fb : ME} (ha : PE X a (rdE X.K fa)) (hb : PE X (.BoolOp .And (b :: rest) pos) (rdE X.K fb)) : PE X (.BoolOp .And (a :: b :: rest) pos) (rdE X.K (eAnd fa fb)) := by
  refine pe_mono (pe_and ha hb) ?_
  rintro σ H Q ⟨m, h, es, k, w, q, p⟩
  refine ⟨m, h, es, _, w, q, fun x m1 h1 H1 dx e1 w1 r1 q1 => ?_⟩
  obtain ⟨c, e, _, q2⟩ := blK_true r1 q1
  refine ⟨c, e, ?_⟩
  cases c with
  | true =>
    rw [if_pos rfl]
    exact ⟨m1, h1, es, k, w1, q2, p.mono e1⟩
  | false =>
    rw [if_neg Bool.false_ne_true]
    exact p _ m1 h1 H1 _ e1 w1 (.bl _) q2
theorem ok_eOr {fa fb : ME} (ha : PE X a (rdE X.K fa)) (hb : PE X (.BoolOp .Or (b :: rest) pos) (rdE X.K fb)) : PE X (.BoolOp .Or (a :: b :: rest) pos) (rdE X.K (eOr fa fb)) := by
  refine pe_mono (pe_or ha hb) ?_
  rintro σ H Q ⟨m, h, es, k, w, q, p⟩
  refine ⟨m, h, es, _, w, q, fun x m1 h1 H1 dx e1 w1 r1 q1 => ?_⟩
  obtain ⟨c, e, _, q2⟩ := blK_true r1 q1
  refine ⟨c, e, ?_⟩
  cases c with
  | true =>
    rw [if_pos rfl]
    exact p _ m1 h1 H1 _ e1 w1 (.bl _) q2
  | false =>
    rw [if_neg Bool.false_ne_true]
    exact ⟨m1, h1, es, k, w1, q2, p.mono e1⟩
theorem ok_eNot {fa : ME} (ha : PE X a (rdE X.K fa)) : PE X (.UnaryOp .Not a pos) (rdE X.K (eNot fa)) := by
  refine pe_mono (pe_not ha) ?_
  rintro σ H Q ⟨m, h, es, k, w, q, p⟩
  refine ⟨m, h, es, _, w, q, fun x m1 h1 H1 dx e1 w1 r1 q1 => ?_⟩
  obtain ⟨c, e, _, q2⟩ := blK_true r1 q1
  refine ⟨c, e, p _ m1 h1 H1 _ e1 w1 (.bl _) ?_⟩
  cases c with
  | true => exact q2
  | false => exact q2
def eIf (t : MT) (a b : ME) : ME := fun es h k => t es h fun x h => bsel x (a es h k) (b es h k)
theorem ok_if {c : Expr} {ft : MT} {fa fb : ME} (hc : PT X c (rdT X.K ft)) (ha : PE X a (rdE X.K fa)) (hb : PE X b (rdE X.K fb)) : PE X (.IfExp c a b pos) (rdE X.K (eIf ft fa fb)) := by
  refine pe_mono (pe_ifExp hc ha hb) ?_
  rintro σ H Q ⟨m, h, es, k, w, q, p⟩
  refine ⟨m, h, es, _, w, q, fun x m1 h1 H1 e1 w1 q1 => ?_⟩
  cases x with
  | true =>
    rw [if_pos rfl]
    exact ⟨m1, h1, es, k, w1, q1, p.mono e1⟩
  | false =>
    rw [if_neg Bool.false_ne_true]
    exact ⟨m1, h1, es, k, w1, q1, p.mono e1⟩

/-! ### argument lists, displays -/
def aNil : MEs := fun _ h k => k [] h
def aCons (a : ME) (r : MEs) : MEs := fun es h k => a es h fun x h => r es h fun xs h => k (x :: xs) h
theorem ok_anil : PA X [] (rdA X.K 0 aNil) := by
  refine pa_mono pa_nil ?_
  rintro σ H Q ⟨m, h, es, k, w, q, p⟩
  exact p [] m h H [] Ext.refl w .nil rfl q
theorem ok_acons {L : Nat} {fa : ME} {fr : MEs} {es : List Expr} (ha : PE X a (rdE X.K fa)) (hr : PA X es (rdA X.K L fr)) (hs : starEach (a :: es) X.env = (false, eval a X.env) :: starEach es X.env) : PA X (a :: es) (rdA X.K (L + 1) (aCons fa fr)) := by
  refine pa_mono (pa_cons ha hr hs) ?_
  rintro σ H Q ⟨m, h, es, k, w, q, p⟩
  refine ⟨m, h, es, _, w, q, fun x m1 h1 H1 dx e1 w1 r1 q1 => ?_⟩
  refine ⟨m1, h1, es, _, w1, q1, fun xs m2 h2 H2 ds e2 w2 r2 l q2 => ?_⟩
  exact p _ m2 h2 H2 _ (e1.trans e2) w2 (.cons (r1.mono e2 w1.hs) r2) (by rw [List.length_cons, l]) q2
def eTup (a : MEs) : ME := fun es h k => a es h fun xs h => mkT xs fun d => k d h
def eLst (a : MEs) : ME := fun es h k => a es h fun xs h => alloc (.lst xs) h k
theorem ok_tup {L : Nat} {fa : MEs} {es : List Expr} {x1 : Nat} (ha : PA X es (rdA X.K L fa)) (hl : L ≤ sizeLine) : PE X (.Tuple es x1 pos) (rdE X.K (eTup fa)) := by
  refine pe_mono (pe_tup ha) ?_
  rintro σ H Q ⟨m, h, es, k, w, q, p⟩
  refine ⟨m, h, es, _, w, q, fun xs m1 h1 H1 ds e1 w1 r1 l q1 => ⟨by rw [l]; exact hl, fun a na => ?_⟩⟩
  obtain ⟨d, q2, hd⟩ := mkT_true q1
  exact (p.mono e1).newTup w1 r1 hd q2 a na
theorem ok_lst {L : Nat} {fa : MEs} {es : List Expr} (ha : PA X es (rdA X.K L fa)) (hl : L ≤ sizeLine) : PE X (.List es pos) (rdE X.K (eLst fa)) := by
  refine pe_mono (pe_lst ha) ?_
  rintro σ H Q ⟨m, h, es, k, w, q, p⟩
  refine ⟨m, h, es, _, w, q, fun xs m1 h1 H1 ds e1 w1 r1 l q1 => ⟨by rw [l]; exact hl, fun a na => ?_⟩⟩
  exact (p.mono e1).newLst w1 r1 q1 a na
end
end Pv
set_option Elab.async false
set_option linter.all false
set_option maxRecDepth 100000
set_option maxHeartbeats 4000000
/-! Subscripts, slices, calls of built-ins, methods of lists. -/
noncomputable section
namespace Pv
open PySem PySem.Spec PyProof.Rows L2
section
variable {X : Cx} {K : PySem.W.Frag} {m m' : Nat → Addr} {h h' : Hv} {H H' : Hp} {es : List D} {σ : L2.St} {v : V} {d : D} {k : KD} {Q : VK} {e a b : Expr} {pos : Pos} {j n : Nat}

/-! ### a[b] -/
def ixL (ds : List D) (y : D) (k : D → Bool) : Bool := dc y (fun i => nth ds i k) (fun i => nth (revL ds) i k) pF lF nF aF
def ixD (x y : D) (h : Hv) (k : KD) : Bool := seqOf x h fun ds => ixL ds y fun d => k d h
theorem atI_neg {xs : List V} {i : Nat} {v : V} (h : xs.reverse[i]? = some v) : atI xs (Int.negSucc i) = some v := by
  have hi : i < xs.length := by
    have := (List.getElem?_eq_some_iff.mp h).1
    rw [List.length_reverse] at this
    exact this
  rw [List.getElem?_reverse hi] at h
  unfold atI ixN
  rw [if_neg (by omega), if_pos (by omega)]
  show xs[(Int.negSucc i + (xs.length : Int)).toNat]? = some v
  rw [show (Int.negSucc i + (xs.length : Int)).toNat = xs.length - 1 - i by omega]
  exact h
theorem ixL_true {ds : List D} {vs : List V} {y : D} {vy : V} {k : D → Bool} (r : RDs K m H n vs ds) (ry : RD K m H n vy y) (q : ixL ds y k = true) : ∃ i d v, vy = .int i ∧ atI vs i = some v ∧ RD K m H n v d ∧ k d = true := by
  cases ry with
  | nat i =>
    obtain ⟨d, e, q2⟩ := nth_true (show nth ds i k = true from q)
    obtain ⟨v, e2, r2⟩ := r.get e
    exact ⟨_, d, v, rfl, atI_nat e2, r2, q2⟩
  | neg i =>
    obtain ⟨d, e, q2⟩ := nth_true (show nth (revL ds) i k = true from q)
    rw [revL_eq] at e
    obtain ⟨v, e2, r2⟩ := r.reverse.get e
    exact ⟨_, d, v, rfl, atI_neg e2, r2, q2⟩
  | _ => cases q
theorem ixD_ok : OpOk K ixD (rIx K) := by
  intro m h H es σ x y dx dy k Q w rx ry q p
  obtain ⟨a, ds, vs, rfl, q1, r, c⟩ := seqOf_true w.hs rx q
  obtain ⟨i, d, v, rfl, e, r2, q2⟩ := ixL_true r ry q1
  rcases c with ⟨j, _, hh⟩ | ⟨_, s⟩
  · exact .inl ⟨a, vs, i, v, rfl, rfl, SqL.of hh, e, p.now w r2 q2⟩
  · exact .inr (.inl ⟨a, vs, i, v, rfl, rfl, s, e, p.now w r2 q2⟩)
theorem ok_ix {fa fb : ME} (ha : PE X a (rdE X.K fa)) (hb : PE X b (rdE X.K fb)) (hs : PlainIx b) : PE X (.Subscript a b pos) (rdE X.K (o2 ixD fa fb)) := pe_mono (pe_ix ix_seq ha hb hs) (two_ok ixD_ok)

/-! ### slices -/
abbrev MO := List D → Hv → (Option D → Hv → Bool) → Bool
def PoO (K : PySem.W.Frag) (m : Nat → Addr) (h : Hv) (H : Hp) (es : List D) (σ : L2.St) (k : Option D → Hv → Bool) (Q : Option Int → Hp → Prop) : Prop :=
  ∀ o i m' h' H', Ext m h H m' h' H' → W K m' h' H' es σ → (match o, i with | none, none => True | some d, some i => d = dI i | _, _ => False) → k o h' = true → Q i H'
def rdO (K : PySem.W.Frag) (f : MO) : TO := fun σ H Q => ∃ m h es k, W K m h H es σ ∧ f es h k = true ∧ PoO K m h H es σ k Q
structure POk (X : Cx) (o : Option Expr) (f : MO) : Prop where
  ex : ∃ t, PO X o t ∧ ∀ σ H Q, rdO X.K f σ H Q → t σ H Q
def oNone : MO := fun _ h k => k none h
def oSome (a : ME) : MO := fun es h k => a es h fun x h => dc x (fun _ => k (some x) h) (fun _ => k (some x) h) pF lF nF aF
theorem ok_oNone : POk X none oNone := ⟨_, po_none, by
  rintro σ H Q ⟨m, h, es, k, w, q, p⟩
  exact p none none m h H Ext.refl w trivial q⟩
theorem ok_oSome {fa : ME} (ha : PE X a (rdE X.K fa)) : POk X (some a) (oSome fa) := ⟨_, po_some ha, by
  rintro σ H Q ⟨m, h, es, k, w, q, p⟩
  refine ⟨m, h, es, _, w, q, fun x m1 h1 H1 dx e1 w1 r1 q1 => ?_⟩
  cases r1 with
  | nat i => exact ⟨_, rfl, p (some (.nat i)) (some (Int.ofNat i)) m1 h1 H1 e1 w1 rfl q1⟩
  | neg i => exact ⟨_, rfl, p (some (.neg i)) (some (Int.negSucc i)) m1 h1 H1 e1 w1 rfl q1⟩
  | _ => cases q1⟩
def clipK (o : Option D) (n d : Nat) (k : Nat → Bool) : Bool := @Option.rec D (fun _ => Bool) (k d) (fun x => dc x (fun a => fN (bsel (Nat.ble a n) a n) k) (fun a => fN (Nat.sub n (Nat.succ a)) k) pF lF nF aF) o
theorem clipK_true {o : Option D} {i : Option Int} {n d : Nat} {k : Nat → Bool} (c : match o, i with | none, none => True | some d, some i => d = dI i | _, _ => False) (q : clipK o n d k = true) : k (HT.sIx n d i) = true := by
  cases o with
  | none =>
    cases i with
    | none => exact q
    | some i => exact c.elim
  | some x =>
    cases i with
    | none => exact c.elim
    | some i =>
      have e : x = dI i := c
      subst e
      cases i with
      | ofNat a =>
        have q' : fN (bsel (Nat.ble a n) a n) k = true := q
        rw [fN_eq] at q'
        rw [show HT.sIx n d (some (Int.ofNat a)) = bsel (Nat.ble a n) a n by
          rw [show (Int.ofNat a) = (a : Int) from rfl, HT.sIx_nat, ble_dec]
          by_cases z : a ≤ n
          · rw [decide_eq_true z]; show min a n = a; omega
          · rw [decide_eq_false z]; show min a n = n; omega]
        exact q'
      | negSucc a =>
        have q' : fN (n - (a + 1)) k = true := q
        rw [fN_eq] at q'
        rw [show HT.sIx n d (some (Int.negSucc a)) = n - (a + 1) by
          show (if Int.negSucc a < 0 then (Int.negSucc a + (n : Int)).toNat else _) = _
          rw [if_pos (by omega)]
          omega]
        exact q'
def cutK (ds : List D) (lo hi : Option D) (k : List D → Bool) : Bool := fN (lenL ds) fun n => clipK lo n 0 fun a => clipK hi n n fun b => k (takeL (dropL ds a) (Nat.sub b a))
theorem cutK_true {ds : List D} {vs : List V} {lo hi : Option D} {i j : Option Int} {k : List D → Bool} (r : RDs K m H n vs ds) (cl : match lo, i with | none, none => True | some d, some i => d = dI i | _, _ => False) (ch : match hi, j with | none, none => True | some d, some i => d = dI i | _, _ => False) (q : cutK ds lo hi k = true) :
    ∃ fs, RDs K m H n (cutV vs i j) fs ∧ k fs = true ∧ ∀ d ∈ fs, d ∈ ds := by
  unfold cutK at q
  rw [fN_eq, lenL_eq] at q
  have q1 := clipK_true cl q
  have q2 := clipK_true ch q1
  rw [takeL_eq, dropL_eq] at q2
  have hl := r.length
  refine ⟨_, ?_, q2, fun d hd => List.mem_of_mem_drop (List.mem_of_mem_take hd)⟩
  unfold cutV
  rw [hl]
  exact (r.drop _).take _
def slD (x : D) (lo hi : Option D) (h : Hv) (k : KD) : Bool := dc x nF nF (fun p ds => cutK ds lo hi fun fs => k (.tup p fs) h) (fun ds => cutK ds lo hi fun fs => mkT fs fun d => k d h) (fun j => seqR j h fun ds => cutK ds lo hi fun fs => alloc (.lst fs) h k) aF
def eSl (a : ME) (lo hi : MO) : ME := fun es h k => a es h fun x h => lo es h fun l h => hi es h fun u h => slD x l u h k
theorem ok_sl {lo hi : Option Expr} {p2 : Pos} {fa : ME} {fl fh : MO} (ha : PE X a (rdE X.K fa)) (hl : POk X lo fl) (hh : POk X hi fh) : PE X (.Subscript a (.Slice lo hi none p2) pos) (rdE X.K (eSl fa fl fh)) := by
  obtain ⟨tl, pl, ml⟩ := hl.ex
  obtain ⟨th, ph, mh⟩ := hh.ex
  refine pe_mono (pe_slice (sl_tupA.or sl_list) ha pl ph) ?_
  rintro σ H Q ⟨m, h, es, k, w, q, p⟩
  refine ⟨m, h, es, _, w, q, fun x m1 h1 H1 dx e1 w1 r1 q1 => ?_⟩
  refine ml _ _ _ ⟨m1, h1, es, _, w1, q1, fun o i m2 h2 H2 e2 w2 c2 q2 => ?_⟩
  refine mh _ _ _ ⟨m2, h2, es, _, w2, q2, fun o' i' m3 h3 H3 e3 w3 c3 q3 => ?_⟩
  have p' := p.mono ((e1.trans e2).trans e3)
  have r := (r1.mono e2 w1.hs).mono e3 w2.hs
  have whole : ∀ {vs : List V}, HT.sIx vs.length 0 i = 0 ∧ HT.sIx vs.length vs.length i' = vs.length → cutV vs i i' = vs := fun {vs} z => by
    unfold cutV
    rw [z.1, z.2, List.drop_zero, Nat.sub_zero, List.take_length]
  cases r with
  | tup s rr y z =>
    rename_i A pp vs ds
    obtain ⟨fs, rf, q4, sub⟩ := cutK_true rr c2 c3 (show cutK ds o o' (fun fs => k (.tup pp fs) h3) = true from q3)
    have hd : ∀ {K : PySem.W.Frag} {m : Nat → Addr} {H : Hp} {n : Nat} {a : Addr} {vs : List V}, SqT K H a vs → RDs K m H n vs fs → RD K m H n (.ref a) (.tup pp fs) := fun s r => .tup s r y fun d hd => z d (sub d hd)
    refine .inl ⟨A, vs, rfl, s, fun wh => ?_, fun _ l nl => p'.newTup w3 rf hd q4 l nl⟩
    rw [whole wh] at rf
    exact p'.now w3 (hd s rf) q4
  | tpr s rr =>
    rename_i A vs ds
    obtain ⟨fs, rf, q4, sub⟩ := cutK_true rr c2 c3 (show cutK ds o o' (fun fs => mkT fs fun d => k d h3) = true from q3)
    obtain ⟨d, q5, hd⟩ := mkT_true q4
    refine .inl ⟨A, vs, rfl, s, fun wh => ?_, fun _ l nl => p'.newTup w3 rf hd q5 l nl⟩
    rw [whole wh] at rf
    exact p'.now w3 (hd s rf) q5
  | ref j lj =>
    have q3' : seqR j h3 (fun ds => cutK ds o o' fun fs => alloc (.lst fs) h3 k) = true := q3
    obtain ⟨ds, vs, oo, _, _, q4, hh, rr⟩ := seqR_true w3.hs q3'
    obtain ⟨fs, rf, q5, _⟩ := cutK_true rr c2 c3 q4
    exact .inr ⟨_, vs, rfl, SqL.of hh, fun l nl => p'.newLst w3 rf q5 l nl⟩
  | _ => cases q3
/-- xs[::-1] of a list; of a tuple -/
def revD (x : D) (h : Hv) (k : KD) : Bool := dc x nF nF pF lF (fun j => seqR j h fun ds => alloc (.lst (revL ds)) h k) aF

/-! ### built-in functions by values -/
def BOk (K : PySem.W.Frag) (f : List D → Hv → KD → Bool) (r : List V → Hp → VK → Prop) : Prop := ∀ m h H es σ vs ds k Q, W K m h H es σ → RDs K m H h.n vs ds → f ds h k = true → Po K m h H es σ k Q → r vs H Q
def eB (f : List D → Hv → KD → Bool) (a : MEs) : ME := fun es h k => a es h fun xs h => f xs h k
theorem blt_mono {L : Nat} {fa : MEs} {f : List D → Hv → KD → Bool} {r : List V → Hp → VK → Prop} (hr : BOk K f r) : ∀ σ H Q, rdE K (eB f fa) σ H Q → tCB r (rdA K L fa) σ H Q := by
  rintro σ H Q ⟨m, h, es, k, w, q, p⟩
  refine ⟨m, h, es, _, w, q, fun vs m1 h1 H1 ds e1 w1 r1 l q1 => ?_⟩
  exact hr m1 h1 H1 es σ vs ds k Q w1 r1 q1 (p.mono e1)
def ar1 (g : D → Hv → KD → Bool) (ds : List D) (h : Hv) (k : KD) : Bool := @List.rec D (fun _ => Bool) false (fun x r _ => @List.rec D (fun _ => Bool) (g x h k) (fun _ _ _ => false) r) ds
def ar2 (g : D → D → Hv → KD → Bool) (ds : List D) (h : Hv) (k : KD) : Bool := @List.rec D (fun _ => Bool) false (fun x r _ => @List.rec D (fun _ => Bool) false (fun y r _ => @List.rec D (fun _ => Bool) (g x y h k) (fun _ _ _ => false) r) r) ds
theorem ar1_true {g : D → Hv → KD → Bool} {ds : List D} {vs : List V} (r : RDs K m H n vs ds) (q : ar1 g ds h k = true) : ∃ x dx, vs = [x] ∧ RD K m H n x dx ∧ g dx h k = true := by
  cases r with
  | nil => cases q
  | cons a r =>
    cases r with
    | nil => exact ⟨_, _, rfl, a, q⟩
    | cons _ _ => cases q
theorem ar2_true {g : D → D → Hv → KD → Bool} {ds : List D} {vs : List V} (r : RDs K m H n vs ds) (q : ar2 g ds h k = true) : ∃ x y dx dy, vs = [x, y] ∧ RD K m H n x dx ∧ RD K m H n y dy ∧ g dx dy h k = true := by
  cases r with
  | nil => cases q
  | cons a r =>
    cases r with
    | nil => cases q
    | cons b r =>
      cases r with
      | nil => exact ⟨_, _, _, _, rfl, a, b, q⟩
      | cons _ _ => cases q
def lenD (x : D) (h : Hv) (k : KD) : Bool := seqOf x h fun ds => fN (lenL ds) fun l => k (.nat l) h
theorem len_ok : BOk K (ar1 lenD) (fun xs H Q => ∃ p ys, xs = [.ref p] ∧ (SqL K H p ys ∨ SqT K H p ys) ∧ Q (.int ys.length) H) := by
  intro m h H es σ vs ds k Q w r q p
  obtain ⟨x, dx, rfl, rx, q⟩ := ar1_true r q
  obtain ⟨a, ds, vs, rfl, q1, r, c⟩ := seqOf_true w.hs rx q
  rw [fN_eq, lenL_eq] at q1
  refine ⟨a, vs, rfl, ?_, ?_⟩
  · rcases c with ⟨j, _, hh⟩ | ⟨_, s⟩
    · exact .inl (SqL.of hh)
    · exact .inr s
  · rw [r.length]
    exact p.now (d := .nat ds.length) w (.nat _) q1
def tupleD (x : D) (h : Hv) (k : KD) : Bool := dc x nF nF (fun p ds => k (.tup p ds) h) (fun ds => k (.tpr ds) h) (fun j => seqR j h fun ds => mkT ds fun d => k d h) aF
theorem tuple_ok : BOk K (ar1 tupleD) (fun xs H Q => ∃ p ys, xs = [.ref p] ∧ ((SqL K H p ys ∧ ∀ l, H l = none → Q (.ref l) (upd H l (.tup ys))) ∨ (SqT K H p ys ∧ Q (.ref p) H))) := by
  intro m h H es σ vs ds k Q w r q p
  obtain ⟨x, dx, rfl, rx, q⟩ := ar1_true r q
  cases rx with
  | tup s rr y z => exact ⟨_, _, rfl, .inr ⟨s, p.now w (.tup s rr y z) q⟩⟩
  | tpr s rr => exact ⟨_, _, rfl, .inr ⟨s, p.now w (.tpr s rr) q⟩⟩
  | ref j lj =>
    have q' : seqR j h (fun ds => mkT ds fun d => k d h) = true := q
    obtain ⟨ds, vs, oo, _, _, q4, hh, rr⟩ := seqR_true w.hs q'
    obtain ⟨d, q5, hd⟩ := mkT_true q4
    exact ⟨_, _, rfl, .inl ⟨SqL.of hh, fun l nl => p.newTup w rr hd q5 l nl⟩⟩
  | _ => cases q
def listD (x : D) (h : Hv) (k : KD) : Bool := seqOf x h fun ds => alloc (.lst ds) h k
theorem list_ok : BOk K (ar1 listD) (fun xs H Q => ∃ p ys, xs = [.ref p] ∧ (SqL K H p ys ∨ SqT K H p ys) ∧ ∀ l, H l = none → Q (.ref l) (upd H l (.lst ys))) := by
  intro m h H es σ vs ds k Q w r q p
  obtain ⟨x, dx, rfl, rx, q⟩ := ar1_true r q
  obtain ⟨a, ds, vs, rfl, q1, r, c⟩ := seqOf_true w.hs rx q
  refine ⟨a, vs, rfl, ?_, fun l nl => p.newLst w r q1 l nl⟩
  rcases c with ⟨j, _, hh⟩ | ⟨_, s⟩
  · exact .inl (SqL.of hh)
  · exact .inr s
/-- lists of truth values -/
def allK (ds : List D) (k : Bool → Bool) : Bool := @List.rec D (fun _ => Bool → Bool) (fun a => bsel a (k true) (k false)) (fun x _ ih a => blK x fun b => ih (bsel b a false)) ds true
def allA (ds : List D) : Bool → (Bool → Bool) → Bool := @List.rec D (fun _ => Bool → (Bool → Bool) → Bool) (fun a k => bsel a (k true) (k false)) (fun x _ ih a k => blK x fun b => bsel b (ih a k) (ih false k)) ds
def anyA (ds : List D) : Bool → (Bool → Bool) → Bool := @List.rec D (fun _ => Bool → (Bool → Bool) → Bool) (fun a k => bsel a (k true) (k false)) (fun x _ ih a k => blK x fun b => bsel b (ih true k) (ih a k)) ds
theorem bsel_k {a : Bool} {k : Bool → Bool} (q : bsel a (k true) (k false) = true) : k a = true := by
  cases a <;> exact q
theorem allA_true {k : Bool → Bool} : ∀ {ds : List D} {vs : List V} {a : Bool}, RDs K m H n vs ds → allA ds a k = true → ∃ bs : List Bool, vs = bs.map V.bl ∧ k (a && bs.all id) = true
  | _, _, a, .nil, q => ⟨[], rfl, by rw [List.all_nil, Bool.and_true]; exact bsel_k q⟩
  | _, _, a, .cons r s, q => by
    obtain ⟨c, e, e2, q2⟩ := blK_true r q
    rcases bsel_true q2 with ⟨e3, q3⟩ | ⟨e3, q3⟩
    · obtain ⟨bs, e4, q4⟩ := allA_true s q3
      exact ⟨c :: bs, by rw [e, e4]; rfl, by rw [List.all_cons, e3]; exact q4⟩
    · obtain ⟨bs, e4, q4⟩ := allA_true s q3
      refine ⟨c :: bs, by rw [e, e4]; rfl, ?_⟩
      rw [List.all_cons, e3]
      rw [Bool.false_and] at q4
      show k (a && (false && _)) = true
      rw [Bool.false_and, Bool.and_false]
      exact q4
theorem anyA_true {k : Bool → Bool} : ∀ {ds : List D} {vs : List V} {a : Bool}, RDs K m H n vs ds → anyA ds a k = true → ∃ bs : List Bool, vs = bs.map V.bl ∧ k (a || bs.any id) = true
  | _, _, a, .nil, q => ⟨[], rfl, by rw [List.any_nil, Bool.or_false]; exact bsel_k q⟩
  | _, _, a, .cons r s, q => by
    obtain ⟨c, e, e2, q2⟩ := blK_true r q
    rcases bsel_true q2 with ⟨e3, q3⟩ | ⟨e3, q3⟩
    · obtain ⟨bs, e4, q4⟩ := anyA_true s q3
      refine ⟨c :: bs, by rw [e, e4]; rfl, ?_⟩
      rw [List.any_cons, e3]
      rw [Bool.true_or] at q4
      show k (a || (true || _)) = true
      rw [Bool.true_or, Bool.or_true]
      exact q4
    · obtain ⟨bs, e4, q4⟩ := anyA_true s q3
      exact ⟨c :: bs, by rw [e, e4]; rfl, by rw [List.any_cons, e3]; exact q4⟩
def allD (x : D) (h : Hv) (k : KD) : Bool := dc x nF nF pF lF (fun j => seqR j h fun ds => allA ds true fun b => k (.oth (.bl b)) h) aF
def anyD (x : D) (h : Hv) (k : KD) : Bool := dc x nF nF pF lF (fun j => seqR j h fun ds => anyA ds false fun b => k (.oth (.bl b)) h) aF
theorem all_ok : BOk K (ar1 allD) (rAll K) := by
  intro m h H es σ vs ds k Q w r q p
  obtain ⟨x, dx, rfl, rx, q⟩ := ar1_true r q
  cases rx with
  | ref j lj =>
    have q' : seqR j h (fun ds => allA ds true fun b => k (.oth (.bl b)) h) = true := q
    obtain ⟨ds, vs, oo, _, _, q4, hh, rr⟩ := seqR_true w.hs q'
    obtain ⟨bs, e, q5⟩ := allA_true rr q4
    subst e
    exact ⟨_, bs, rfl, SqL.of hh, p.now w (.bl _) q5⟩
  | _ => cases q
theorem any_ok : BOk K (ar1 anyD) (rAny K) := by
  intro m h H es σ vs ds k Q w r q p
  obtain ⟨x, dx, rfl, rx, q⟩ := ar1_true r q
  cases rx with
  | ref j lj =>
    have q' : seqR j h (fun ds => anyA ds false fun b => k (.oth (.bl b)) h) = true := q
    obtain ⟨ds, vs, oo, _, _, q4, hh, rr⟩ := seqR_true w.hs q'
    obtain ⟨bs, e, q5⟩ := anyA_true rr q4
    subst e
    exact ⟨_, bs, rfl, SqL.of hh, p.now w (.bl _) q5⟩
  | _ => cases q
/-- numbers -/
def absD (x : D) (h : Hv) (k : KD) : Bool := dc x (fun i => k (.nat i) h) (fun i => fN (Nat.succ i) fun n => k (.nat n) h) pF lF nF aF
theorem abs_ok : BOk K (ar1 absD) (fun xs H Q => ∃ i, xs = [.int i] ∧ Q (.int (if i < 0 then -i else i)) H) := by
  intro m h H es σ vs ds k Q w r q p
  obtain ⟨x, dx, rfl, rx, q⟩ := ar1_true r q
  cases rx with
  | nat i =>
    refine ⟨_, rfl, ?_⟩
    rw [if_neg (by simp only [Int.ofNat_eq_natCast]; omega)]
    exact p.now w (.nat i) q
  | neg i =>
    have q' : fN (i + 1) (fun n => k (.nat n) h) = true := q
    rw [fN_eq] at q'
    refine ⟨_, rfl, ?_⟩
    rw [if_pos (by omega), show (-(Int.negSucc i)) = Int.ofNat (i + 1) by simp only [Int.ofNat_eq_natCast]; omega]
    exact p.now (d := .nat (i + 1)) w (.nat _) q'
  | _ => cases q
def intD (x : D) (h : Hv) (k : KD) : Bool := dc x (fun i => k (.nat i) h) (fun i => k (.neg i) h) pF lF nF (fun a => @At.rec (fun _ => Bool) false false (fun b => k (.nat (b01 b)) h) (fun _ => false) a)
theorem int_ok : BOk K (ar1 intD) (fun xs H Q => (∃ i, xs = [.int i] ∧ Q (.int i) H) ∨ ∃ k, xs = [.bl k] ∧ Q (.int (if k then 1 else 0)) H) := by
  intro m h H es σ vs ds k Q w r q p
  obtain ⟨x, dx, rfl, rx, q⟩ := ar1_true r q
  cases rx with
  | nat i => exact .inl ⟨_, rfl, p.now w (.nat i) q⟩
  | neg i => exact .inl ⟨_, rfl, p.now w (.neg i) q⟩
  | bl b =>
    refine .inr ⟨b, rfl, p.now (d := .nat (b01 b)) w ?_ q⟩
    cases b
    · exact .nat 0
    · exact .nat 1
  | _ => cases q
def gcdD (x y : D) (h : Hv) (k : KD) : Bool := dc x
  (fun i => dc y (fun j => fN (Nat.gcd i j) fun n => k (.nat n) h) (fun j => fN (Nat.gcd i (Nat.succ j)) fun n => k (.nat n) h) pF lF nF aF)
  (fun i => dc y (fun j => fN (Nat.gcd (Nat.succ i) j) fun n => k (.nat n) h) (fun j => fN (Nat.gcd (Nat.succ i) (Nat.succ j)) fun n => k (.nat n) h) pF lF nF aF) pF lF nF aF
theorem gcd_ok : BOk K (ar2 gcdD) rGcd := by
  intro m h H es σ vs ds k Q w r q p
  obtain ⟨x, y, dx, dy, rfl, rx, ry, q⟩ := ar2_true r q
  have fin : ∀ {i j : Int} {N : Nat}, N = Nat.gcd i.natAbs j.natAbs → fN N (fun n => k (.nat n) h) = true → rGcd [.int i, .int j] H Q := fun {i j N} e z => by
    rw [fN_eq] at z
    refine ⟨i, j, rfl, ?_⟩
    rw [← e]
    exact p.now (d := .nat N) w (.nat N) z
  cases rx with
  | nat i =>
    cases ry with
    | nat j => exact fin rfl q
    | neg j => exact fin rfl q
    | _ => cases q
  | neg i =>
    cases ry with
    | nat j => exact fin rfl q
    | neg j => exact fin rfl q
    | _ => cases q
  | _ => cases ry <;> cases q
end
end Pv
set_option Elab.async false
set_option linter.all false
set_option maxRecDepth 100000
set_option maxHeartbeats 4000000
/-! Statements, targets, what is walked, loops. -/
noncomputable section
namespace Pv
open PySem PySem.Spec PyProof.Rows L2

structure PoS (K : PySem.W.Frag) (m : Nat → Addr) (h : Hv) (H : Hp) (κ : KS) (E : Ends) : Prop where
  nx : ∀ m' h' H' es' σ', Ext m h H m' h' H' → W K m' h' H' es' σ' → κ.nx es' h' = true → E.nx σ' H'
  bk : ∀ m' h' H' es' σ', Ext m h H m' h' H' → W K m' h' H' es' σ' → κ.bk es' h' = true → E.bk σ' H'
  ct : ∀ m' h' H' es' σ', Ext m h H m' h' H' → W K m' h' H' es' σ' → κ.ct es' h' = true → E.ct σ' H'
  rt : ∀ v m' h' H' d, Ext m h H m' h' H' → HS K m' h' H' → RD K m' H' h'.n v d → κ.rt d h' = true → E.rt v H'
def rdS (K : PySem.W.Frag) (f : MS) : TS := fun E σ H => ∃ m h es κ, W K m h H es σ ∧ f es h κ = true ∧ PoS K m h H κ E

section
variable {X : Cx} {K : PySem.W.Frag} {m m' : Nat → Addr} {h h' : Hv} {H H' : Hp} {es es' : List D} {σ σ' : L2.St} {v : V} {d : D} {k : KD} {Q : VK} {e a b : Expr} {pos : Pos} {j n : Nat} {κ : KS} {E : Ends} {st : Stmt} {rest : List Stmt}
theorem PoS.mono (p : PoS K m h H κ E) (e : Ext m h H m' h' H') : PoS K m' h' H' κ E :=
  ⟨fun m2 h2 H2 es2 σ2 e2 => p.nx m2 h2 H2 es2 σ2 (e.trans e2), fun m2 h2 H2 es2 σ2 e2 => p.bk m2 h2 H2 es2 σ2 (e.trans e2), fun m2 h2 H2 es2 σ2 e2 => p.ct m2 h2 H2 es2 σ2 (e.trans e2), fun v m2 h2 H2 d e2 => p.rt v m2 h2 H2 d (e.trans e2)⟩

/-! ### blocks, small statements -/
def sNil : MS := fun es h κ => κ.nx es h
def sSeq (a b : MS) : MS := fun es h κ => a es h ⟨fun es h => b es h κ, κ.rt, κ.bk, κ.ct⟩
def sNever : MS := fun _ _ _ => false
def sBrk : MS := fun es h κ => κ.bk es h
def sCnt : MS := fun es h κ => κ.ct es h
theorem ok_snil : PSs X [] (rdS K sNil) := by
  refine pss_mono pss_nil ?_
  rintro E σ H ⟨m, h, es, κ, w, q, p⟩
  exact p.nx m h H es σ Ext.refl w q
theorem ok_sseq {fa fb : MS} (ha : PS X st (rdS K fa)) (hb : PSs X rest (rdS K fb)) : PSs X (st :: rest) (rdS K (sSeq fa fb)) := by
  refine pss_mono (pss_cons ha hb) ?_
  rintro E σ H ⟨m, h, es, κ, w, q, p⟩
  refine ⟨m, h, es, _, w, q, ⟨fun m1 h1 H1 es1 σ1 e1 w1 q1 => ⟨m1, h1, es1, κ, w1, q1, p.mono e1⟩, p.bk, p.ct, p.rt⟩⟩
theorem ok_snever : PS X st (rdS K sNever) := ps_mono ps_never (by rintro E σ H ⟨m, h, es, κ, w, q, p⟩; cases q)
theorem ok_spass : PS X (.Pass pos) (rdS K sNil) := by
  refine ps_mono ps_pass ?_
  rintro E σ H ⟨m, h, es, κ, w, q, p⟩
  exact p.nx m h H es σ Ext.refl w q
theorem ok_sbrk : PS X (.Break pos) (rdS K sBrk) := by
  refine ps_mono ps_break ?_
  rintro E σ H ⟨m, h, es, κ, w, q, p⟩
  exact p.bk m h H es σ Ext.refl w q
theorem ok_scnt : PS X (.Continue pos) (rdS K sCnt) := by
  refine ps_mono ps_continue ?_
  rintro E σ H ⟨m, h, es, κ, w, q, p⟩
  exact p.ct m h H es σ Ext.refl w q
def sExp (e : ME) : MS := fun es h κ => e es h fun _ h => κ.nx es h
theorem ok_sexp {fa : ME} (ha : PE X e (rdE X.K fa)) (hs : swapsWith e none pos.line X.env = pure false) : PS X (.Expr e pos) (rdS X.K (sExp fa)) := by
  refine ps_mono (ps_expr ha hs) ?_
  rintro E σ H ⟨m, h, es, κ, w, q, p⟩
  exact ⟨m, h, es, _, w, q, fun v m1 h1 H1 d e1 w1 r1 q1 => p.nx m1 h1 H1 es σ e1 w1 q1⟩
def sRet (e : ME) : MS := fun es h κ => e es h κ.rt
theorem ok_sret {fa : ME} (ha : PE X e (rdE X.K fa)) : PS X (.Return (some e) pos) (rdS X.K (sRet fa)) := by
  refine ps_mono (ps_ret ha) ?_
  rintro E σ H ⟨m, h, es, κ, w, q, p⟩
  exact ⟨m, h, es, _, w, q, fun v m1 h1 H1 d e1 w1 r1 q1 => p.rt v m1 h1 H1 d e1 w1.hs r1 q1⟩
def sRetN : MS := fun es h κ => κ.rt (.oth .non) h
theorem ok_sretN : PS X (.Return none pos) (rdS K sRetN) := by
  refine ps_mono ps_retN ?_
  rintro E σ H ⟨m, h, es, κ, w, q, p⟩
  exact p.rt .non m h H _ Ext.refl w.hs .non q
def sIf (t : MT) (a b : MS) : MS := fun es h κ => t es h fun x h => bsel x (a es h κ) (b es h κ)
theorem ok_sif {c : Expr} {A B : List Stmt} {ft : MT} {fa fb : MS} (hc : PT X c (rdT X.K ft)) (ha : PSs X A (rdS X.K fa)) (hb : PSs X B (rdS X.K fb)) : PS X (.If c A B pos) (rdS X.K (sIf ft fa fb)) := by
  refine ps_mono (ps_if hc ha hb) ?_
  rintro E σ H ⟨m, h, es, κ, w, q, p⟩
  refine ⟨m, h, es, _, w, q, fun x m1 h1 H1 e1 w1 q1 => ?_⟩
  cases x with
  | true =>
    rw [if_pos rfl]
    exact ⟨m1, h1, es, κ, w1, q1, p.mono e1⟩
  | false =>
    rw [if_neg Bool.false_ne_true]
    exact ⟨m1, h1, es, κ, w1, q1, p.mono e1⟩

/-! ### targets -/
abbrev MGh := D → List D → Hv → (List D → Bool) → Bool
abbrev MGs := List D → List D → Hv → (List D → Bool) → Bool
def rdG (K : PySem.W.Frag) (g : MGh) (S : List Nat) : TG := fun v σ H Q => ∃ m h es d k, W K m h H es σ ∧ RD K m H h.n v d ∧ g d es h k = true ∧
  ∀ es' σ', W K m h H es' σ' → (∀ vs : List Nat, (∀ i ∈ S, i ∈ vs) → L2.wipe σ' vs = L2.wipe σ vs) → k es' = true → Q σ' H
def rdGs (K : PySem.W.Frag) (g : MGs) (S : List Nat) : TGs := fun vs σ H Q => ∃ m h es ds k, W K m h H es σ ∧ RDs K m H h.n vs ds ∧ g ds es h k = true ∧
  ∀ es' σ', W K m h H es' σ' → (∀ vs : List Nat, (∀ i ∈ S, i ∈ vs) → L2.wipe σ' vs = L2.wipe σ vs) → k es' = true → Q σ' H
theorem pg_mono {t t' : TG} {tg : Expr} (h : PG X tg t) (hm : ∀ v σ H Q, t' v σ H Q → t v σ H Q) : PG X tg t' := ⟨fun pins s σ H v u Q I r w => h.run pins s σ H v u Q I r (hm v σ H Q w)⟩
theorem pgs_mono {t t' : TGs} {tgs : List Expr} (h : PGs X tgs t) (hm : ∀ v σ H Q, t' v σ H Q → t v σ H Q) : PGs X tgs t' := ⟨fun pins s σ H v u Q I r w => h.run pins s σ H v u Q I r (hm v σ H Q w)⟩
theorem pg_or {t t' : TG} {tg : Expr} (h : PG X tg t) (h' : PG X tg t') : PG X tg (fun v σ H Q => t v σ H Q ∨ t' v σ H Q) := ⟨fun pins s σ H v u Q I r w => w.elim (h.run pins s σ H v u Q I r) (h'.run pins s σ H v u Q I r)⟩
theorem wipe_set {i : Nat} {x : Option V} : ∀ {vs : List Nat} {σ : L2.St}, i ∈ vs → L2.wipe (σ.set i x) vs = L2.wipe σ vs
  | [], _, hm => nomatch hm
  | w :: vs, σ, hm => by
    show (L2.wipe (σ.set i x) vs).set w none = (L2.wipe σ vs).set w none
    by_cases hv : i ∈ vs
    · rw [wipe_set hv]
    · rcases List.mem_cons.mp hm with e | z
      · subst e
        have go : ∀ {vs : List Nat}, i ∉ vs → L2.wipe (σ.set i x) vs = (L2.wipe σ vs).set i x := fun {vs} => by
          induction vs with
          | nil => intro _; rfl
          | cons u us ih =>
            intro hn
            show (L2.wipe (σ.set i x) us).set u none = ((L2.wipe σ us).set u none).set i x
            rw [ih (fun z => hn (List.mem_cons_of_mem _ z)), List.set_comm _ _ (fun e => hn (by rw [e]; exact List.mem_cons_self))]
        rw [go hv, List.set_set]
      · exact absurd z hv
def gNm (i : Nat) : MGh := fun d es _ k => k (sE es i d)
theorem ok_gnm {i : Nat} {x : Str} (hN : X.N.Nodup) (hi : X.N[i]? = some x) (hx : Loc X.env.scope x) (hf : X.fn x = true ∨ X.env.scope.names.lookup x = some .local) : PG X (.Name x pos) (rdG X.K (gNm i) [i]) := by
  refine pg_mono (pg_name hN hi hx hf) ?_
  rintro v σ H Q ⟨m, h, es, d, k, w, r, q, p⟩
  exact p _ _ (w.set i r) (fun vs hv => wipe_set (hv i List.mem_cons_self)) q
def gsNil : MGs := fun ds es _ k => @List.rec D (fun _ => Bool) (k es) (fun _ _ _ => false) ds
def gsCons (g : MGh) (r : MGs) : MGs := fun ds es h k => @List.rec D (fun _ => Bool) false (fun d ds _ => g d es h fun es => r ds es h k) ds
theorem ok_gsnil : PGs X [] (rdGs X.K gsNil []) := by
  refine pgs_mono pgs_nil ?_
  rintro vs σ H Q ⟨m, h, es, ds, k, w, r, q, p⟩
  cases r with
  | nil => exact ⟨rfl, p es σ w (fun _ _ => rfl) q⟩
  | cons _ _ => cases q
theorem ok_gscons {tg : Expr} {tgs : List Expr} {g : MGh} {gr : MGs} {S T : List Nat} (h1 : PG X tg (rdG X.K g S)) (h2 : PGs X tgs (rdGs X.K gr T)) (hs : (assignEach (tg :: tgs) X.env).map (·.2) = assign tg X.env :: (assignEach tgs X.env).map (·.2)) : PGs X (tg :: tgs) (rdGs X.K (gsCons g gr) (S ++ T)) := by
  refine pgs_mono (pgs_cons h1 h2 hs) ?_
  rintro vs σ H Q ⟨m, h, es, ds, k, w, r, q, p⟩
  cases r with
  | nil => cases q
  | cons r rr =>
    refine ⟨_, _, rfl, m, h, es, _, _, w, r, q, fun es1 σ1 w1 a1 q1 => ⟨m, h, es1, _, _, w1, rr, q1, fun es2 σ2 w2 a2 q2 => p es2 σ2 w2 (fun vs hv => ?_) q2⟩⟩
    rw [a2 vs fun i hi => hv i (List.mem_append_right _ hi), a1 vs fun i hi => hv i (List.mem_append_left _ hi)]
def gTp (g : MGs) : MGh := fun d es h k => seqOf d h fun ds => g ds es h k
/-- the combinator asks for so many -/
def GLen (g : MGs) (n : Nat) : Prop := ∀ ds es h k, g ds es h k = true → ds.length = n
theorem gsNil_len : GLen gsNil 0 := fun ds es h k q => by cases ds with | nil => rfl | cons _ _ => cases q
theorem gsCons_len {g : MGh} {r : MGs} {n : Nat} (hr : GLen r n) (hg : ∀ d es h k, g d es h k = true → ∃ es', k es' = true) : GLen (gsCons g r) (n + 1) := fun ds es h k q => by
  cases ds with
  | nil => cases q
  | cons d ds =>
    obtain ⟨es', q2⟩ := hg d es h _ q
    rw [List.length_cons, hr ds es' h k q2]
theorem ok_gtp {tgs : List Expr} {g : MGs} {S : List Nat} {kk : Nat} {L : Nat} (hc : X.calm = true) (hg : PGs X tgs (rdGs X.K g S)) (hl : GLen g L) (hn : (assignEach tgs X.env).length = L) (hst : (assignEach tgs X.env).findIdx? (·.1) = none) : PG X (.Tuple tgs kk pos) (rdG X.K (gTp g) S) := by
  refine pg_mono (pg_or (pg_tup hc hg hn hst) (pg_unl hc hg hn hst)) ?_
  rintro v σ H Q ⟨m, h, es, d, k, w, r, q, p⟩
  obtain ⟨a, ds, vs, rfl, q1, rs, c⟩ := seqOf_true w.hs r q
  have len : vs.length = L := by rw [rs.length]; exact hl ds es h k q1
  rcases c with ⟨j, _, hh⟩ | ⟨_, s⟩
  · exact .inr ⟨a, vs, rfl, SqL.of hh, len, m, h, es, ds, k, w, rs, q1, p⟩
  · exact .inl ⟨a, vs, rfl, s, len, m, h, es, ds, k, w, rs, q1, p⟩

/-! ### assignments -/
def sSet (i : Nat) (e : ME) : MS := fun es h κ => e es h fun d h => κ.nx (sE es i d) h
theorem ok_sset {i : Nat} {x : Str} {pos' : Pos} {fa : ME} (hN : X.N.Nodup) (hi : X.N[i]? = some x) (hx : Loc X.env.scope x) (ha : PE X e (rdE X.K fa)) (hs : swapsWith e (some (.Name x pos')) pos.line X.env = pure false) (hf : X.fn x = true ∨ X.env.scope.names.lookup x = some .local) :
    PS X (.Assign [.Name x pos'] e pos) (rdS X.K (sSet i fa)) := by
  refine ps_mono (ps_set hN hi hx ha hs hf) ?_
  rintro E σ H ⟨m, h, es, κ, w, q, p⟩
  exact ⟨m, h, es, _, w, q, fun v m1 h1 H1 d e1 w1 r1 q1 => p.nx m1 h1 H1 _ _ e1 (w1.set i r1) q1⟩
def sAsg (g : MGh) (e : ME) : MS := fun es h κ => e es h fun d h => g d es h fun es => κ.nx es h
theorem ok_sasg {tg : Expr} {g : MGh} {S : List Nat} {fa : ME} (ha : PE X e (rdE X.K fa)) (hg : PG X tg (rdG X.K g S)) (hs : swapsWithSole [tg] e pos.line X.env = pure false) (hw : swappedStores [tg] e X.env = pure none) (h1 : (assignEach [tg] X.env).map (·.2) = [assign tg X.env]) : PS X (.Assign [tg] e pos) (rdS X.K (sAsg g fa)) := by
  refine ps_mono (ps_asg ha hg hs hw h1) ?_
  rintro E σ H ⟨m, h, es, κ, w, q, p⟩
  exact ⟨m, h, es, _, w, q, fun v m1 h1 H1 d e1 w1 r1 q1 => ⟨m1, h1, es, d, _, w1, r1, q1, fun es' σ' w' _ q' => p.nx m1 h1 H1 es' σ' e1 w' q'⟩⟩
/-- a, b = x, y of plain local names -/
def sPar2 (i j : Nat) (a : MEs) : MS := fun es h κ => a es h fun xs h => @List.rec D (fun _ => Bool) false (fun x r _ => @List.rec D (fun _ => Bool) false (fun y _ _ => κ.nx (sE (sE es i x) j y) h) r) xs
theorem ok_spar2 {i j : Nat} {x y : Str} {px py pt : Pos} {kt k2 pt2} {fa : MEs} (hc : X.calm = true) (hN : X.N.Nodup) (hi : X.N[i]? = some x) (hj : X.N[j]? = some y) (hij : i ≠ j)
    (hx : X.env.scope.names.lookup x = some .local) (hy : X.env.scope.names.lookup y = some .local) (ha : PA X [a, b] (rdA X.K 2 fa))
    (hw : swappedStores [.Tuple [.Name x px, .Name y py] kt pt] (.Tuple [a, b] k2 pt2) X.env = pure (some [x, y]))
    (hs : swapsWithSole [.Tuple [.Name x px, .Name y py] kt pt] (.Tuple [a, b] k2 pt2) pos.line X.env = pure false) :
    PS X (.Assign [.Tuple [.Name x px, .Name y py] kt pt] (.Tuple [a, b] k2 pt2) pos) (rdS X.K (sPar2 i j fa)) := by
  refine ps_mono (ps_par hc hN hi hj hij hx hy ha hw hs) ?_
  rintro E σ H ⟨m, h, es, κ, w, q, p⟩
  refine ⟨m, h, es, _, w, q, fun vs m1 h1 H1 ds e1 w1 r1 l q1 => ?_⟩
  cases r1 with
  | nil => cases q1
  | cons r r1 =>
    cases r1 with
    | nil => cases q1
    | cons r' r1 =>
      cases r1 with
      | nil => exact ⟨_, _, rfl, p.nx m1 h1 H1 _ _ e1 ((w1.set i r).set j r') q1⟩
      | cons _ _ => exact absurd l (by simp only [List.length_cons]; omega)
def sPar3 (i j l : Nat) (a : MEs) : MS := fun es h κ => a es h fun xs h => @List.rec D (fun _ => Bool) false (fun x r _ => @List.rec D (fun _ => Bool) false (fun y r _ => @List.rec D (fun _ => Bool) false (fun z _ _ => κ.nx (sE (sE (sE es i x) j y) l z) h) r) r) xs

/-! ### o[i] = e of a list -/
def setIx (ds : List D) (y v : D) (k : List D → Bool) : Bool := fN (lenL ds) fun l => dc y (fun i => bsel (Nat.blt i l) (k (setL ds i v)) false) (fun i => bsel (Nat.blt i l) (k (setL ds (Nat.sub l (Nat.succ i)) v)) false) pF lF nF aF
def sSub (e o i : ME) : MS := fun es h κ => e es h fun v h => o es h fun x h => i es h fun y h => dc x nF nF pF lF (fun j => look h.m j fun u => @LO.rec (fun _ => Bool) (fun ds => setIx ds y v fun ds => κ.nx es ⟨h.n, put h.m j (.lst ds)⟩) (fun _ _ => false) false u) aF
theorem setIx_true {ds : List D} {y v : D} {vy : V} {k : List D → Bool} (ry : RD K m H n vy y) (q : setIx ds y v k = true) : ∃ i z, vy = .int i ∧ ixN ds.length i = some z ∧ k (ds.set z v) = true := by
  unfold setIx at q
  rw [fN_eq, lenL_eq] at q
  cases ry with
  | nat i =>
    obtain ⟨q1, q2⟩ := bsel_tf (show bsel (Nat.blt i ds.length) (k (setL ds i v)) false = true from q)
    rw [setL_eq] at q2
    have l : i < ds.length := Nat.le_of_ble_eq_true q1
    refine ⟨_, i, rfl, ?_, q2⟩
    unfold ixN
    rw [if_pos (by simp only [Int.ofNat_eq_natCast]; omega), if_pos (by simp only [Int.ofNat_eq_natCast]; omega)]
    rfl
  | neg i =>
    obtain ⟨q1, q2⟩ := bsel_tf (show bsel (Nat.blt i ds.length) (k (setL ds (ds.length - (i + 1)) v)) false = true from q)
    rw [setL_eq] at q2
    have l : i < ds.length := Nat.le_of_ble_eq_true q1
    refine ⟨_, ds.length - (i + 1), rfl, ?_, q2⟩
    unfold ixN
    rw [if_neg (by omega), if_pos (by omega)]
    congr 1
    omega
  | _ => cases q
theorem OD.lst_new {j : Nat} (w : HS K m h H) (q : lk h.m j = some o') {ds : List D} {vs : List V} (r : RDs K m H h.n vs ds) : HS K m ⟨h.n, put h.m j (.lst ds)⟩ (upd H (m j) (.lst vs)) ∧ Ext m h H m ⟨h.n, put h.m j (.lst ds)⟩ (upd H (m j) (.lst vs)) := by
  have lj : Pv.live h.m j := by unfold Pv.live; rw [q]; rfl
  have ex : Ext m h H m ⟨h.n, put h.m j (.lst ds)⟩ (upd H (m j) (.lst vs)) := by
    refine ⟨Nat.le_refl _, fun _ _ => rfl, fun a ob e z => ⟨?_, fun i y => z i (live_put.mp y)⟩, fun i y => live_put.mpr y⟩
    rw [upd_ne (Ne.symm (z j lj))]; exact e
  exact w.write q ⟨vs, upd_same, r.mono ex w⟩ trivial
theorem ok_ssub {o i : Expr} {fe fo fi : ME} {tpos : Pos} (he : PE X e (rdE X.K fe)) (ho : PE X o (rdE X.K fo)) (hi : PE X i (rdE X.K fi))
    (hasg : ∀ v, assign (.Subscript o i tpos) X.env v = (do
      let ov ← holding [v] (eval o X.env)
      let iv ← holding [v, ov] (eval i X.env)
      standAt tpos
      holding [v, ov, iv] (setItem ov iv v)
      release [v, ov, iv] []))
    (hs : swapsWithSole [.Subscript o i tpos] e pos.line X.env = pure false) (hw : swappedStores [.Subscript o i tpos] e X.env = pure none) (h1 : (assignEach [.Subscript o i tpos] X.env).map (·.2) = [assign (.Subscript o i tpos) X.env]) :
    PS X (.Assign [.Subscript o i tpos] e pos) (rdS X.K (sSub fe fo fi)) := by
  refine ps_mono (ps_asg he (pg_sub ho hi set_list hasg) hs hw h1) ?_
  rintro E σ H ⟨m, h, es, κ, w, q, p⟩
  refine ⟨m, h, es, _, w, q, fun v m1 h1 H1 d e1 w1 r1 q1 => ?_⟩
  refine ⟨m1, h1, es, _, w1, q1, fun x m2 h2 H2 dx e2 w2 r2 q2 => ?_⟩
  refine ⟨m2, h2, es, _, w2, q2, fun y m3 h3 H3 dy e3 w3 r3 q3 => ?_⟩
  have rx := r2.mono e3 w2.hs
  have rv := (r1.mono e2 w1.hs).mono e3 w2.hs
  cases rx with
  | ref j lj =>
    obtain ⟨u, q4, q5⟩ := look_true (show look h3.m j _ = true from q3)
    obtain ⟨_, od⟩ := w3.hs.obj j u q4
    cases u with
    | lst ds =>
      obtain ⟨vs, hh, rs⟩ := od
      obtain ⟨i, z, rfl, ez, q6⟩ := setIx_true r3 q5
      obtain ⟨w4, e4⟩ := OD.lst_new w3.hs q4 (rs.set rv z)
      refine ⟨_, vs, i, z, rfl, rfl, hh, by rw [rs.length]; exact ez, ?_⟩
      exact p.nx m3 _ _ es σ (((e1.trans e2).trans e3).trans e4) (w3.mono e4 w4) q6
    | dct ks vs => cases q5
    | tin => cases q5
  | _ => cases q3
end
end Pv
set_option Elab.async false
set_option linter.all false
set_option maxRecDepth 100000
set_option maxHeartbeats 4000000
/-! What is walked; for, while. -/
noncomputable section
namespace Pv
open PySem PySem.Spec PyProof.Rows L2 RZ

/-- the weaker relation of two states: what readings need -/
structure Ex0 (K : PySem.W.Frag) (m : Nat → Addr) (h : Hv) (H : Hp) (m' : Nat → Addr) (h' : Hv) (H' : Hp) : Prop where
  le : h.n ≤ h'.n
  agr : ∀ j, j < h.n → m' j = m j
  tup : ∀ a xs, SqT K H a xs → SqT K H' a xs
theorem Ext.weak {K : PySem.W.Frag} {m m' : Nat → Addr} {h h' : Hv} {H H' : Hp} (e : Ext m h H m' h' H') (w : HS K m h H) : Ex0 K m h H m' h' H' := ⟨e.le, e.agr, fun a xs s => e.tup w s⟩
theorem Ex0.trans {K : PySem.W.Frag} {m m' m2 : Nat → Addr} {h h' h2 : Hv} {H H' H2 : Hp} (e : Ex0 K m h H m' h' H') (f : Ex0 K m' h' H' m2 h2 H2) : Ex0 K m h H m2 h2 H2 :=
  ⟨Nat.le_trans e.le f.le, fun j hj => (f.agr j (Nat.lt_of_lt_of_le hj e.le)).trans (e.agr j hj), fun a xs s => f.tup a xs (e.tup a xs s)⟩
theorem Ex0.refl {K : PySem.W.Frag} {m : Nat → Addr} {h : Hv} {H : Hp} : Ex0 K m h H m h H := ⟨Nat.le_refl _, fun _ _ => rfl, fun _ _ s => s⟩
section
variable {K : PySem.W.Frag} {m m' : Nat → Addr} {h h' : Hv} {H H' : Hp}
mutual
theorem RD.mono0 (e : Ex0 K m h H m' h' H') : ∀ {v : V} {d : D}, RD K m H h.n v d → RD K m' H' h'.n v d
  | _, _, .nat i => .nat i
  | _, _, .neg i => .neg i
  | _, _, .tup s r z q => .tup (e.tup _ _ s) (RDs.mono0 e r) z q
  | _, _, .tpr s r => .tpr (e.tup _ _ s) (RDs.mono0 e r)
  | _, _, .ref j q => by
    rw [← e.agr j q]
    exact .ref j (Nat.lt_of_lt_of_le q e.le)
  | _, _, .non => .non
  | _, _, .bl b => .bl b
  | _, _, .str x q => .str x q
theorem RDs.mono0 (e : Ex0 K m h H m' h' H') : ∀ {vs : List V} {ds : List D}, RDs K m H h.n vs ds → RDs K m' H' h'.n vs ds
  | _, _, .nil => .nil
  | _, _, .cons r s => .cons (RD.mono0 e r) (RDs.mono0 e s)
end
theorem Sl.mono0 {es : List D} {σ : L2.St} (e : Ex0 K m h H m' h' H') (s : Sl K m H h.n es σ) : Sl K m' H' h'.n es σ :=
  ⟨s.1, fun i => (s.2 i).imp id fun ⟨v, q, r⟩ => ⟨v, q, r.mono0 e⟩⟩
end
/-- what is walked: items that stand fast, or a walker that looks anew at each turn (n: turns at most) -/
inductive WI where
  | fx (ds : List D)
  | dy (n : Nat) (st : Nat → Hv → (D → Bool) → Bool → Bool)
abbrev MI := List D → Hv → (WI → Hv → Bool) → Bool
/-- at turn i it yields d -/
def Yl (K : PySem.W.Frag) (J : It) (i : Nat) (m : Nat → Addr) (h : Hv) (H : Hp) (d : D) : Prop :=
  J.go i H ∧ ∀ x H', J.yld i H x H' → HS K m h H' ∧ Ext m h H m h H' ∧ RD K m H' h.n x d
def FxOk (K : PySem.W.Frag) (m : Nat → Addr) (h : Hv) (H : Hp) (J : It) (ds : List D) : Prop :=
  ∀ m' h' H', Ex0 K m h H m' h' H' → HS K m' h' H' → (∀ i d, ds[i]? = some d → Yl K J i m' h' H' d) ∧ (∀ i, ds.length ≤ i → J.stop i H')
def DyOk (K : PySem.W.Frag) (m : Nat → Addr) (h : Hv) (H : Hp) (J : It) (st : Nat → Hv → (D → Bool) → Bool → Bool) : Prop :=
  ∀ m' h' H', Ex0 K m h H m' h' H' → HS K m' h' H' → ∀ i k s, st i h' k s = true → (J.stop i H' ∧ s = true) ∨ ∃ d, Yl K J i m' h' H' d ∧ k d = true
def WOk (K : PySem.W.Frag) (m : Nat → Addr) (h : Hv) (H : Hp) (J : It) : WI → Prop
  | .fx ds => FxOk K m h H J ds
  | .dy _ st => DyOk K m h H J st
def rdI (K : PySem.W.Frag) (f : MI) : TI := fun σ H R => ∃ m h es k, W K m h H es σ ∧ f es h k = true ∧
  ∀ J it m' h' H', Ext m h H m' h' H' → W K m' h' H' es σ → WOk K m' h' H' J it → k it h' = true → R J H'

section
variable {X : Cx} {K : PySem.W.Frag} {m m' : Nat → Addr} {h h' : Hv} {H H' : Hp} {es es' : List D} {σ σ' : L2.St} {v : V} {d : D} {k : KD} {Q : VK} {e a b : Expr} {pos : Pos} {j n : Nat} {κ : KS} {E : Ends} {tg : Expr}
theorem pi_mono {t t' : TI} {iter : Expr} (h : PI X tg iter t) (hm : ∀ σ H Q, t' σ H Q → t σ H Q) : PI X tg iter t' := ⟨fun pins s σ H R I w => h.run pins s σ H R I (hm σ H R w)⟩

/-! ### lists and tuples -/
/-- the item at a place, or what is beyond the end -/
def nthO (l : List D) : Nat → (D → Bool) → Bool → Bool := @List.rec D (fun _ => Nat → (D → Bool) → Bool → Bool) (fun _ _ s => s) (fun x _ ih i k s => @Nat.rec (fun _ => Bool) (k x) (fun j _ => ih j k s) i) l
theorem nthO_true {k : D → Bool} {s : Bool} : ∀ {l : List D} {i : Nat}, nthO l i k s = true → (l.length ≤ i ∧ s = true) ∨ ∃ d, l[i]? = some d ∧ k d = true
  | [], _, h => .inl ⟨Nat.zero_le _, h⟩
  | x :: _, 0, h => .inr ⟨x, rfl, h⟩
  | _ :: r, i + 1, h => by
    rcases nthO_true (l := r) (i := i) h with ⟨l, q⟩ | ⟨d, e, q⟩
    · exact .inl ⟨Nat.succ_le_succ l, q⟩
    · exact .inr ⟨d, by rw [List.getElem?_cons_succ]; exact e, q⟩
def stL (j : Nat) : Nat → Hv → (D → Bool) → Bool → Bool := fun i h k s => seqR j h fun ds => nthO ds i k s
theorem stL_ok {j : Nat} (l : j < h.n) : DyOk K m h H (Itl K (m j)) (stL j) := by
  intro m' h' H' e hs i k s q
  obtain ⟨ds, vs, o, _, _, q2, hh, r⟩ := seqR_true hs (show seqR j h' _ = true from q)
  have hh' : H' (m j) = some (.lst vs) := by rw [← e.agr j l]; exact hh
  rcases nthO_true q2 with ⟨le, q3⟩ | ⟨d, ed, q3⟩
  · exact .inl ⟨⟨vs, SqL.of hh', by rw [r.length]; exact le⟩, q3⟩
  · obtain ⟨v, ev, rv⟩ := r.get ed
    refine .inr ⟨d, ⟨⟨vs, v, SqL.of hh', ev⟩, ?_⟩, q3⟩
    rintro x H2 ⟨rfl, y⟩
    have e2 := y vs (SqL.of hh')
    rw [ev] at e2
    cases e2
    exact ⟨hs, Ext.refl, rv⟩
theorem fxT_ok {a : Addr} {vs : List V} {ds : List D} (w : HS K m h H) (s : SqT K H a vs) (r : RDs K m H h.n vs ds) : FxOk K m h H (Itt K a) ds := by
  intro m' h' H' e hs
  have s' := e.tup _ _ s
  have r' := r.mono0 e
  refine ⟨fun i d ed => ?_, fun i l => ⟨vs, s', by rw [r'.length]; exact l⟩⟩
  obtain ⟨v, ev, rv⟩ := r'.get ed
  refine ⟨⟨vs, v, s', ev⟩, ?_⟩
  rintro x H2 ⟨rfl, y⟩
  have e2 := y vs s'
  rw [ev] at e2
  cases e2
  exact ⟨hs, Ext.refl, rv⟩
theorem pi_or {t t' : TI} {iter : Expr} (h : PI X tg iter t) (h' : PI X tg iter t') : PI X tg iter (fun σ H R => t σ H R ∨ t' σ H R) := ⟨fun pins s σ H R I w => w.elim (h.run pins s σ H R I) (h'.run pins s σ H R I)⟩
/-- a list or a tuple -/
def iSq (K : PySem.W.Frag) (tl : TE) : TI := fun σ H R => tl σ H fun x H1 => ∃ a, x = .ref a ∧ (((∃ xs, SqL K H1 a xs) ∧ R (Itl K a) H1) ∨ ((∃ xs, SqT K H1 a xs) ∧ R (Itt K a) H1))
theorem pi_sq {l : Expr} {tl : TE} (hl : PE X l tl) : PI X tg l (iSq X.K tl) := by
  refine ⟨fun pins s σ H R I h => ?_⟩
  refine thn (hl.run pins s σ H _ I h) fun v s1 ⟨x, H1, I1, r1, q1⟩ => ?_
  obtain ⟨a, e, ⟨⟨xs, hq⟩, q⟩ | ⟨⟨xs, hq⟩, q⟩⟩ := q1
  · subst e
    cases r1
    obtain ⟨its, rv, p, hz⟩ := I1.list hq
    refine wpAny_pyIter_list p.isList ?_
    refine ⟨s1.heap.objs.size, [s1.heap.objs.size], _, _, H1, rfl, I1.kept (t' := s1.toks) fun b o e => Heap.get?_push_of_some _ e, turn_list a _, ⟨_, Heap.get?_push_size _ rfl, rfl, rfl⟩, fun b hb => ?_, q⟩
    have e : b = s1.heap.objs.size := by simpa using hb
    subst e
    exact I1.fpOk (Nat.le_refl _) (I1.hok.fresh (Nat.le_refl _))
  · subst e
    cases r1
    obtain ⟨its, rv, p, hz⟩ := I1.tuple hq
    refine wpAny_pyIter_tuple (show s1.heap.IsTuple a its.toArray from p) ?_
    refine ⟨s1.heap.objs.size, [s1.heap.objs.size], _, _, H1, rfl, I1.kept (t' := s1.toks) fun b o e => Heap.get?_push_of_some _ e, turn_tuple a _, ⟨_, Heap.get?_push_size _ rfl, rfl, rfl⟩, fun b hb => ?_, q⟩
    have e : b = s1.heap.objs.size := by simpa using hb
    subst e
    exact I1.fpOk (Nat.le_refl _) (I1.hok.fresh (Nat.le_refl _))
def iSeq (a : ME) : MI := fun es h k => a es h fun x h => dc x nF nF (fun _ ds => k (.fx ds) h) (fun ds => k (.fx ds) h) (fun j => seqR j h fun ds => fN (Nat.succ (lenL ds)) fun n => k (.dy n (stL j)) h) aF
theorem ok_iseq {fa : ME} (ha : PE X a (rdE X.K fa)) : PI X tg a (rdI X.K (iSeq fa)) := by
  refine pi_mono (pi_sq ha) ?_
  rintro σ H R ⟨m, h, es, k, w, q, p⟩
  refine ⟨m, h, es, _, w, q, fun x m1 h1 H1 d e1 w1 r1 q1 => ?_⟩
  cases r1 with
  | tup s r z y => exact ⟨_, rfl, .inr ⟨⟨_, s⟩, p _ (.fx _) m1 h1 H1 e1 w1 (fxT_ok w1.hs s r) q1⟩⟩
  | tpr s r => exact ⟨_, rfl, .inr ⟨⟨_, s⟩, p _ (.fx _) m1 h1 H1 e1 w1 (fxT_ok w1.hs s r) q1⟩⟩
  | ref j l =>
    obtain ⟨ds, vs, o, _, _, q2, hh, r⟩ := seqR_true w1.hs (show seqR j h1 _ = true from q1)
    rw [fN_eq] at q2
    exact ⟨_, rfl, .inl ⟨⟨vs, SqL.of hh⟩, p _ (.dy _ (stL j)) m1 h1 H1 e1 w1 (stL_ok l) q2⟩⟩
  | _ => cases q1

/-! ### range -/
theorem fxR_ok {ds : List D} {lo : Int} {nn : Nat} (hl : ds.length = nn) (hd : ∀ (i : Nat) (d : D), ds[i]? = some d → d = dI (lo + i)) : FxOk K m h H (Itr lo nn) ds := by
  intro m' h' H' e hs
  refine ⟨fun i d ed => ?_, fun i l => by rw [hl] at l; exact l⟩
  have hi : i < ds.length := by
    rcases Nat.lt_or_ge i ds.length with z | z
    · exact z
    · rw [List.getElem?_eq_none z] at ed; cases ed
  refine ⟨by rw [hl] at hi; exact hi, ?_⟩
  rintro x H2 ⟨rfl, rfl⟩
  rw [hd i d ed]
  exact ⟨hs, Ext.refl, rd_dI _⟩
theorem rangeL_dI {n lo i : Nat} {d : D} (e : (rangeL n lo)[i]? = some d) : d = dI ((lo : Int) + i) := by
  have hi : i < n := by
    rcases Nat.lt_or_ge i n with z | z
    · exact z
    · rw [List.getElem?_eq_none (by rw [rangeL_length]; exact z)] at e; cases e
  rw [rangeL_at n lo i hi] at e
  cases e
  have : ((lo : Int) + i) = Int.ofNat (lo + i) := by simp only [Int.ofNat_eq_natCast]; omega
  rw [this]
  rfl
/-- lo, lo + 1, .. from -(i + 1) up to below 0 -/
def rangeN (i : Nat) : List D → List D := @Nat.rec (fun _ => List D → List D) (fun r => .neg 0 :: r) (fun j ih r => .neg (Nat.succ j) :: ih r) i
theorem rangeN_length : ∀ (i : Nat) (r : List D), (rangeN i r).length = i + 1 + r.length
  | 0, r => by show r.length + 1 = _; omega
  | i + 1, r => by show (rangeN i r).length + 1 = _; rw [rangeN_length i r]; omega
theorem rangeN_dI {r : List D} (hr : ∀ (t : Nat) (d : D), r[t]? = some d → d = dI t) : ∀ (i t : Nat) (d : D), (rangeN i r)[t]? = some d → d = dI (Int.negSucc i + t)
  | 0, 0, d, e => by cases e; rfl
  | 0, t + 1, d, e => by
    have := hr t d e
    rw [this]; congr 1; omega
  | i + 1, 0, d, e => by cases e; rfl
  | i + 1, t + 1, d, e => by
    have := rangeN_dI hr i t d e
    rw [this]; congr 1; omega
def L62 : Nat := 4611686018427387904
def iRg1 (a : ME) : MI := fun es h k => a es h fun x h => dc x (fun i => bsel (Nat.blt i L62) (k (.fx (rangeL i 0)) h) false) (fun i => bsel (Nat.blt i L62) (k (.fx []) h) false) pF lF nF aF
def rg2K (x y : D) (k : List D → Bool) : Bool := dc x
  (fun i => dc y (fun j => bsel (Nat.blt i L62) (bsel (Nat.blt j L62) (fN (Nat.sub j i) fun n => k (rangeL n i)) false) false) (fun j => bsel (Nat.blt i L62) (bsel (Nat.blt j L62) (k []) false) false) pF lF nF aF)
  (fun i => dc y (fun j => bsel (Nat.blt i L62) (bsel (Nat.blt j L62) (k (rangeN i (rangeL j 0))) false) false) nF pF lF nF aF) pF lF nF aF
def iRg2 (a b : ME) : MI := fun es h k => a es h fun x h => b es h fun y h => rg2K x y fun ds => k (.fx ds) h
theorem blt_lt {i n : Nat} (q : Nat.blt i n = true) : i < n := Nat.le_of_ble_eq_true q
theorem ok_rg1 {fa : ME} {p : Pos} (hg : Gl X "range") (hm : X.mg "range" = none) (ha : PE X a (rdE X.K fa)) (hs : starEach [a] X.env = [(false, eval a X.env)]) : PI X tg (.Call (.Name "range" p) [a] [] pos) (rdI X.K (iRg1 fa)) := by
  refine pi_mono (pi_range1 hg hm (pa_cons ha pa_nil hs) hs) ?_
  rintro σ H R ⟨m, h, es, k, w, q, p⟩
  refine ⟨m, h, es, _, w, q, fun x m1 h1 H1 d e1 w1 r1 q1 => ?_⟩
  cases r1 with
  | nat i =>
    obtain ⟨l, q2⟩ := bsel_tf (show bsel (Nat.blt i L62) _ false = true from q1)
    have l' : i < 4611686018427387904 := blt_lt l
    refine ⟨i, rfl, by omega, by omega, p _ (.fx (rangeL i 0)) m1 h1 H1 e1 w1 (fxR_ok (rangeL_length i 0) fun t d ed => by have := rangeL_dI ed; simpa using this) q2⟩
  | neg i =>
    obtain ⟨l, q2⟩ := bsel_tf (show bsel (Nat.blt i L62) _ false = true from q1)
    have l' : i < 4611686018427387904 := blt_lt l
    refine ⟨_, rfl, by rw [Int.negSucc_eq]; omega, by rw [Int.negSucc_eq]; omega, p _ (.fx []) m1 h1 H1 e1 w1 (fxR_ok (by show 0 = _; rw [Int.toNat_negSucc]) fun t d ed => by simp at ed) q2⟩
  | _ => cases q1
theorem rg2K_true {x y : D} {vx vy : V} {k : List D → Bool} (rx : RD K m H n vx x) (ry : RD K m H n vy y) (q : rg2K x y k = true) :
    ∃ (i j : Int) (ds : List D), vx = .int i ∧ vy = .int j ∧ (-(2 ^ 62) ≤ i ∧ i < 2 ^ 62 ∧ -(2 ^ 62) ≤ j ∧ j < 2 ^ 62) ∧ ds.length = (j - i).toNat ∧ (∀ (t : Nat) (d : D), ds[t]? = some d → d = dI (i + t)) ∧ k ds = true := by
  unfold rg2K at q
  cases rx with
  | nat i =>
    cases ry with
    | nat j =>
      obtain ⟨l, q⟩ := bsel_tf (show bsel (Nat.blt i L62) _ false = true from q)
      obtain ⟨l2, q⟩ := bsel_tf q
      rw [fN_eq] at q
      have l' : i < 4611686018427387904 := blt_lt l
      have l2' : j < 4611686018427387904 := blt_lt l2
      refine ⟨_, _, _, rfl, rfl, ⟨?_, ?_, ?_, ?_⟩, ?_, fun t d ed => rangeL_dI ed, q⟩
      all_goals simp only [Int.ofNat_eq_natCast, rangeL_length, Nat.sub_eq]; omega
    | neg j =>
      obtain ⟨l, q⟩ := bsel_tf (show bsel (Nat.blt i L62) _ false = true from q)
      obtain ⟨l2, q⟩ := bsel_tf q
      have l' : i < 4611686018427387904 := blt_lt l
      have l2' : j < 4611686018427387904 := blt_lt l2
      refine ⟨_, _, _, rfl, rfl, ⟨?_, ?_, ?_, ?_⟩, ?_, fun t d ed => by simp at ed, q⟩
      · simp only [Int.ofNat_eq_natCast]; omega
      · simp only [Int.ofNat_eq_natCast]; omega
      · rw [Int.negSucc_eq]; omega
      · rw [Int.negSucc_eq]; omega
      · rw [Int.negSucc_eq, List.length_nil]; simp only [Int.ofNat_eq_natCast]; omega
    | _ => cases q
  | neg i =>
    cases ry with
    | nat j =>
      obtain ⟨l, q⟩ := bsel_tf (show bsel (Nat.blt i L62) _ false = true from q)
      obtain ⟨l2, q⟩ := bsel_tf q
      have l' : i < 4611686018427387904 := blt_lt l
      have l2' : j < 4611686018427387904 := blt_lt l2
      refine ⟨_, _, _, rfl, rfl, ⟨?_, ?_, ?_, ?_⟩, ?_, rangeN_dI (fun t d ed => ?_) i, q⟩
      · rw [Int.negSucc_eq]; omega
      · rw [Int.negSucc_eq]; omega
      · simp only [Int.ofNat_eq_natCast]; omega
      · simp only [Int.ofNat_eq_natCast]; omega
      · rw [rangeN_length, rangeL_length, Int.negSucc_eq]; simp only [Int.ofNat_eq_natCast]; omega
      · have := rangeL_dI ed; simpa using this
    | _ => cases q
  | _ => cases q
theorem ok_rg2 {fa fb : ME} {p : Pos} (hg : Gl X "range") (hm : X.mg "range" = none) (ha : PE X a (rdE X.K fa)) (hb : PE X b (rdE X.K fb)) (hs : starEach [a, b] X.env = [(false, eval a X.env), (false, eval b X.env)]) (hs2 : starEach [b] X.env = [(false, eval b X.env)]) : PI X tg (.Call (.Name "range" p) [a, b] [] pos) (rdI X.K (iRg2 fa fb)) := by
  refine pi_mono (pi_range2 hg hm (pa_cons ha (pa_cons hb pa_nil hs2) (by rw [hs, hs2])) hs hs2) ?_
  rintro σ H R ⟨m, h, es, k, w, q, p⟩
  refine ⟨m, h, es, _, w, q, fun x m1 h1 H1 d e1 w1 r1 q1 => ?_⟩
  refine ⟨m1, h1, es, _, w1, q1, fun y m2 h2 H2 dy e2 w2 r2 q2 => ?_⟩
  obtain ⟨i, j, ds, rfl, rfl, bd, hl, hd, q3⟩ := rg2K_true (r1.mono e2 w1.hs) r2 q2
  exact ⟨i, j, rfl, bd, p _ (.fx ds) m2 h2 H2 (e1.trans e2) w2 (fxR_ok hl hd) q3⟩

/-! ### for -/
def forGo (g : MGh) (b : MS) (κ : KS) (items : List D) : List D → Hv → Bool := @List.rec D (fun _ => List D → Hv → Bool) (fun es h => κ.nx es h) (fun x _ ih es h => g x es h fun es => b es h ⟨ih, κ.rt, κ.nx, ih⟩) items
def forDy (g : MGh) (b : MS) (κ : KS) (st : Nat → Hv → (D → Bool) → Bool → Bool) (n : Nat) : Nat → List D → Hv → Bool := @Nat.rec (fun _ => Nat → List D → Hv → Bool) (fun _ _ _ => false) (fun _ ih i es h => st i h (fun x => g x es h fun es => fN (Nat.succ i) fun i1 => b es h ⟨fun es h => ih i1 es h, κ.rt, κ.nx, fun es h => ih i1 es h⟩) (κ.nx es h)) n
def sFor (i : MI) (g : MGh) (b : MS) : MS := fun es h κ => i es h fun it h => @WI.rec (fun _ => Bool) (fun ds => forGo g b κ ds es h) (fun n st => forDy g b κ st n 0 es h) it
theorem for_fx {g : MGh} {S : List Nat} {fb : MS} {J : It} {m0 : Nat → Addr} {h0 : Hv} {H0 : Hp} {ds : List D} (ok : FxOk K m0 h0 H0 J ds) (p : PoS K m0 h0 H0 κ E) (w0 : W K m0 h0 H0 es σ) (q0 : forGo g fb κ ds es h0 = true) :
    ∃ Wv : Nat → Nat → L2.St → Hp → Prop, (∃ m, Wv 0 m σ H0) ∧ ∀ i m σ H, Wv i m σ H →
      (J.stop i H ∧ E.nx σ H) ∨ (J.go i H ∧ ∃ N : L2.St → Hp → Prop, (∀ σ' H', N σ' H' → ∃ m', m' < m ∧ Wv (i + 1) m' σ' H') ∧ ∀ x H', J.yld i H x H' → rdG K g S x σ H' fun σ2 H2 => rdS K fb { E with nx := N, ct := N, bk := E.nx } σ2 H2) := by
  let Wv : Nat → Nat → L2.St → Hp → Prop := fun i mm σ H => ∃ m h es, mm = ds.length - i ∧ i ≤ ds.length ∧ Ext m0 h0 H0 m h H ∧ W K m h H es σ ∧ forGo g fb κ (ds.drop i) es h = true
  refine ⟨Wv, ⟨ds.length, m0, h0, es, rfl, Nat.zero_le _, Ext.refl, w0, q0⟩, ?_⟩
  rintro i mm σ H ⟨m, h, es, rfl, hi, ex, w, q⟩
  obtain ⟨y, st⟩ := ok m h H (ex.weak w0.hs) w.hs
  by_cases hlt : i < ds.length
  · have ed : ds[i]? = some ds[i] := List.getElem?_eq_getElem hlt
    rw [List.drop_eq_getElem_cons hlt] at q
    obtain ⟨go, yy⟩ := y i _ ed
    refine .inr ⟨go, fun σ' H' => Wv (i + 1) (ds.length - (i + 1)) σ' H', fun σ' H' z => ⟨_, by omega, z⟩, fun x H1 hy => ?_⟩
    obtain ⟨hs1, e1, r1⟩ := yy x H1 hy
    have w1 := w.mono e1 hs1
    refine ⟨m, h, es, ds[i], _, w1, r1, q, fun es2 σ2 w2 _ q2 => ?_⟩
    have e2 := ex.trans e1
    refine ⟨m, h, es2, _, w2, q2, ⟨?_, ?_, ?_, ?_⟩⟩
    · exact fun m3 h3 H3 es3 σ3 e3 w3 q3 => ⟨m3, h3, es3, rfl, hlt, e2.trans e3, w3, q3⟩
    · exact fun m3 h3 H3 es3 σ3 e3 w3 q3 => p.nx m3 h3 H3 es3 σ3 (e2.trans e3) w3 q3
    · exact fun m3 h3 H3 es3 σ3 e3 w3 q3 => ⟨m3, h3, es3, rfl, hlt, e2.trans e3, w3, q3⟩
    · exact fun v m3 h3 H3 d e3 w3 r3 q3 => p.rt v m3 h3 H3 d (e2.trans e3) w3 r3 q3
  · have e : i = ds.length := by omega
    subst e
    rw [List.drop_length] at q
    exact .inl ⟨st _ (Nat.le_refl _), p.nx m h H es σ ex w q⟩
theorem for_dy {g : MGh} {S : List Nat} {fb : MS} {J : It} {m0 : Nat → Addr} {h0 : Hv} {H0 : Hp} {st : Nat → Hv → (D → Bool) → Bool → Bool} {nn : Nat} (ok : DyOk K m0 h0 H0 J st) (p : PoS K m0 h0 H0 κ E) (w0 : W K m0 h0 H0 es σ) (q0 : forDy g fb κ st nn 0 es h0 = true) :
    ∃ Wv : Nat → Nat → L2.St → Hp → Prop, (∃ m, Wv 0 m σ H0) ∧ ∀ i m σ H, Wv i m σ H →
      (J.stop i H ∧ E.nx σ H) ∨ (J.go i H ∧ ∃ N : L2.St → Hp → Prop, (∀ σ' H', N σ' H' → ∃ m', m' < m ∧ Wv (i + 1) m' σ' H') ∧ ∀ x H', J.yld i H x H' → rdG K g S x σ H' fun σ2 H2 => rdS K fb { E with nx := N, ct := N, bk := E.nx } σ2 H2) := by
  let Wv : Nat → Nat → L2.St → Hp → Prop := fun i mm σ H => ∃ m h es, Ext m0 h0 H0 m h H ∧ W K m h H es σ ∧ forDy g fb κ st mm i es h = true
  refine ⟨Wv, ⟨nn, m0, h0, es, Ext.refl, w0, q0⟩, ?_⟩
  rintro i mm σ H ⟨m, h, es, ex, w, q⟩
  cases mm with
  | zero => cases q
  | succ mm =>
    have q' : st i h (fun x => g x es h fun es => fN (Nat.succ i) fun i1 => fb es h ⟨fun es h => forDy g fb κ st mm i1 es h, κ.rt, κ.nx, fun es h => forDy g fb κ st mm i1 es h⟩) (κ.nx es h) = true := q
    rcases ok m h H (ex.weak w0.hs) w.hs i _ _ q' with ⟨stop, q2⟩ | ⟨d, ⟨go, yy⟩, q2⟩
    · exact .inl ⟨stop, p.nx m h H es σ ex w q2⟩
    · refine .inr ⟨go, fun σ' H' => Wv (i + 1) mm σ' H', fun σ' H' z => ⟨mm, Nat.lt_succ_self _, z⟩, fun x H1 hy => ?_⟩
      obtain ⟨hs1, e1, r1⟩ := yy x H1 hy
      have w1 := w.mono e1 hs1
      refine ⟨m, h, es, d, _, w1, r1, q2, fun es2 σ2 w2 _ q2 => ?_⟩
      have e2 := ex.trans e1
      rw [fN_eq] at q2
      refine ⟨m, h, es2, _, w2, q2, ⟨?_, ?_, ?_, ?_⟩⟩
      · exact fun m3 h3 H3 es3 σ3 e3 w3 q3 => ⟨m3, h3, es3, e2.trans e3, w3, q3⟩
      · exact fun m3 h3 H3 es3 σ3 e3 w3 q3 => p.nx m3 h3 H3 es3 σ3 (e2.trans e3) w3 q3
      · exact fun m3 h3 H3 es3 σ3 e3 w3 q3 => ⟨m3, h3, es3, e2.trans e3, w3, q3⟩
      · exact fun v m3 h3 H3 d e3 w3 r3 q3 => p.rt v m3 h3 H3 d (e2.trans e3) w3 r3 q3
theorem ok_sfor {iter : Expr} {body : List Stmt} {fi : MI} {g : MGh} {S : List Nat} {fb : MS} (hp : PassesOwn (model X.prog X.w) X.A X.env X.xe) (hc : X.calm = true) (hi : PI X tg iter (rdI X.K fi)) (hg : PG X tg (rdG X.K g S)) (hb : PSs X body (rdS X.K fb))
    (hs : ∀ x, foldedSetIterable iter X.env x = pure x) : PS X (.For tg iter body [] pos) (rdS X.K (sFor fi g fb)) := by
  refine ps_mono (ps_for hp hc hi hg hb hs) ?_
  rintro E σ H ⟨m, h, es, κ, w, q, p⟩
  refine ⟨m, h, es, _, w, q, fun J it m1 h1 H1 e1 w1 ok q1 => ?_⟩
  cases it with
  | fx ds => exact for_fx ok (p.mono e1) w1 q1
  | dy n st => exact for_dy ok (p.mono e1) w1 q1

/-! ### while (at most n turns) -/
def whGo (t : MT) (b : MS) (κ : KS) (n : Nat) : List D → Hv → Bool := @Nat.rec (fun _ => List D → Hv → Bool) (fun _ _ => false) (fun _ ih es h => t es h fun x h => bsel x (b es h ⟨ih, κ.rt, κ.nx, ih⟩) (κ.nx es h)) n
def sWh (n : Nat) (t : MT) (b : MS) : MS := fun es h κ => whGo t b κ n es h
theorem ok_swh {c : Expr} {body : List Stmt} {ft : MT} {fb : MS} (nn : Nat) (hp : PassesOwn (model X.prog X.w) X.A X.env X.xe) (hc : PT X c (rdT X.K ft)) (hb : PSs X body (rdS X.K fb)) : PS X (.While c body [] pos) (rdS X.K (sWh nn ft fb)) := by
  refine ps_mono (ps_while hp hc hb) ?_
  rintro E σ H ⟨m0, h0, es0, κ, w0, q0, p⟩
  refine ⟨fun mm σ' H' => ∃ (m : Nat → Addr) (h : Hv) (es : List D), Ext m0 h0 H m h H' ∧ W X.K m h H' es σ' ∧ whGo ft fb κ mm es h = true, ⟨nn, m0, h0, es0, Ext.refl, w0, q0⟩, ?_⟩
  rintro mm σ1 H1 ⟨m, h, es, ex, w, q⟩
  cases mm with
  | zero => cases q
  | succ mm =>
    refine ⟨m, h, es, _, w, (show ft es h _ = true from q), fun x m2 h2 H2 e2 w2 q2 => ?_⟩
    have e3 := ex.trans e2
    cases x with
    | true =>
      show if true = true then _ else _
      rw [if_pos rfl]
      refine ⟨fun σ' H' => ∃ (m : Nat → Addr) (h : Hv) (es : List D), Ext m0 h0 H m h H' ∧ W X.K m h H' es σ' ∧ whGo ft fb κ mm es h = true, fun σ' H' z => ⟨mm, Nat.lt_succ_self _, z⟩, ?_⟩
      refine ⟨m2, h2, es, _, w2, q2, ⟨?_, ?_, ?_, ?_⟩⟩
      · exact fun m3 h3 H3 es3 σ3 e4 w3 q3 => ⟨m3, h3, es3, e3.trans e4, w3, q3⟩
      · exact fun m3 h3 H3 es3 σ3 e4 w3 q3 => p.nx m3 h3 H3 es3 σ3 (e3.trans e4) w3 q3
      · exact fun m3 h3 H3 es3 σ3 e4 w3 q3 => ⟨m3, h3, es3, e3.trans e4, w3, q3⟩
      · exact fun v m3 h3 H3 d e4 w3 r3 q3 => p.rt v m3 h3 H3 d (e3.trans e4) w3 r3 q3
    | false =>
      show if false = true then _ else _
      rw [if_neg Bool.false_ne_true]
      exact p.nx m2 h2 H2 es σ1 e3 w2 q2
end
end Pv
set_option Elab.async false
set_option linter.all false
set_option maxRecDepth 100000
set_option maxHeartbeats 4000000
/-! enumerate over a tuple, at the layer's level. -/
namespace Pv
open PySem PySem.Spec PyProof.Rows L2

abbrev enO (it : Addr) : Obj := { cls := .type "enumerate", data := .fields #[.none, .bool false, .ref it, rawInt 0, .none, .none] }
/-- a new enumerate of what begins with o -/
theorem enMeets {v : Value} {o : Obj} {C : Heap → Prop} (bg : Begins v o C) :
    Meets (Builtin.«enumerate.__new__» ⟨[.type "enumerate", v], []⟩) (fun _ R s => C s.heap ∧ R (.ok (.ret (.ref (s.heap.push o).objs.size))) { s with heap := (s.heap.push o).push (enO s.heap.objs.size) }) :=
  .of_wp fun pp ww aa rr st hyp => by
    obtain ⟨hp, gg, dd, tk, oo⟩ := st
    obtain ⟨start, last⟩ := hyp
    have kind := sub_enumerate
    have begin_ : ∀ {A' : Around} {E' : Value → Shared → Prop} {Q' : Value → Shared → Prop}, Q' (.ref hp.objs.size) ⟨hp.push o, gg, dd, tk, oo⟩ → wpAny (model pp ww) A' (pyIter v) Q' E' ⟨hp, gg, dd, tk, oo⟩ :=
      fun z => bg.iter pp ww _ _ ⟨hp, gg, dd, tk, oo⟩ _ start z
    wp_walk using begin_
    refine wpAny_stack_any fun _ => wpAny_pure ?_
    split
    · rename_i cc _ _ _ _ _
      cases (cc == Value.type "enumerate") <;>
        (wp_walk using begin_
         exact ⟨_, rfl, last⟩)
    · wp_walk using begin_
      exact ⟨_, rfl, last⟩
theorem enCall {prog : Program} {w : World} {A : Around} {E : Value → Shared → Prop} {s : Shared} {v : Value} {o : Obj} {C : Heap → Prop} {Q : Value → Shared → Prop} (bg : Begins v o C) (hc : C s.heap)
    (hq : ∀ hp, IsEnum hp (s.heap.objs.size + 1) s.heap.objs.size 0 .none → hp.get? s.heap.objs.size = some o → hp.objs.size = s.heap.objs.size + 2 → (∀ b u, s.heap.get? b = some u → hp.get? b = some u) → Q (.ref (s.heap.objs.size + 1)) { s with heap := hp }) :
    wpAny (model prog w) A (call (.type "enumerate") [v]) Q E s := by
  have one : (s.heap.push o).objs.size = s.heap.objs.size + 1 := Heap.size_push ..
  have en : IsEnum ((s.heap.push o).push (enO s.heap.objs.size)) (s.heap.objs.size + 1) s.heap.objs.size 0 .none := by
    have z := Heap.get?_push_size (s.heap.push o) (o := enO s.heap.objs.size) rfl
    rw [one] at z
    exact z
  refine callType_new F.called_enumerate (by decide) (F.typeCall_enumerate_1 v) (F.newCall_enumerate_1 v) (fun obj => F.args_object_init_2 obj v) F.entry_enumerate_new (enMeets bg) ⟨hc, ?_⟩
  show _ ∧ _
  rw [one]
  exact ⟨⟨_, en, rfl⟩, hq _ en (Heap.get?_push_of_some _ (Heap.get?_push_size _ bg.free)) (by rw [Heap.size_push, one]) fun b u z => Heap.get?_push_of_some _ (Heap.get?_push_of_some _ z)⟩

/-- the tuple at a, each item in a new pair -/
def IteT (K : PySem.W.Frag) (a : Addr) : It :=
  ⟨fun i H => ∃ (xs : List V) (x : V), SqT K H a xs ∧ xs[i]? = some x, fun i H v H' => ∃ T x, v = .ref T ∧ H T = none ∧ H' = upd H T (.tup [.int (i : Nat), x]) ∧ ∀ xs, SqT K H a xs → xs[i]? = some x, fun i H => ∃ xs : List V, SqT K H a xs ∧ xs.length ≤ i⟩
theorem enTurn {P : Program} {w : World} {K : PySem.W.Frag} {elts : List Expr} {kk : Nat} {tp : Pos} (a e it : Addr) :
    Turn P w K (.Tuple elts kk tp) (IteT K a) [e, it] e (fun i h => (∃ old, IsEnum h e it ((i : Nat) : Int) old) ∧ h.IsTupleIter it a i ∧ e ≠ it) where
  mem := List.mem_cons_self
  obj := fun i h st b hb => by
    obtain ⟨⟨old, en⟩, ⟨ot, eo, _, ed⟩, _⟩ := st
    rcases List.mem_cons.mp hb with z | z
    · exact ⟨_, z ▸ en, fun v y => Data.noConfusion (show Data.fields _ = Data.cell v from y)⟩
    · rw [List.mem_singleton.mp z]
      exact ⟨ot, eo, fun v y => by rw [ed] at y; cases y⟩
  keep := fun i h h2 st kp => ⟨st.1.imp fun _ en => kp e List.mem_cons_self _ en, st.2.1.at fun o z => kp it (List.mem_cons_of_mem _ List.mem_cons_self) o z, st.2.2⟩
  item := by
    intro X hP hw hK hc i pins s σ H E I hf st go
    subst hP hw hK
    obtain ⟨⟨old, en⟩, ti, ne⟩ := st
    obtain ⟨xs, x, sq, ex⟩ := go
    obtain ⟨its, rv, pt, _⟩ := I.tuple sq
    obtain ⟨u, eu, ru⟩ := rv.get ex
    have pt' : s.heap.IsTuple a its.toArray := pt
    have ane : a ≠ it := fun z => by
      obtain ⟨o1, e1, c1, _⟩ := ti
      obtain ⟨o2, e2, c2, _⟩ := pt'
      rw [z, e1] at e2
      cases e2
      rw [c1] at c2
      exact absurd c2 (by decide +kernel)
    have ane2 : a ≠ e := fun z => by
      obtain ⟨o2, e2, c2, _⟩ := pt'
      rw [z, en] at e2
      cases e2
      exact absurd (show Value.type "enumerate" = Value.type "tuple" from c2) (by decide +kernel)
    have el : e < s.heap.objs.size := Heap.lt_size en
    have il : it < s.heap.objs.size := by obtain ⟨_, q, _⟩ := ti; exact Heap.lt_size q
    have hd : X.A.in1.handled = none := I.ok.hd hc
    have iu : i < its.toArray.size := by
      have : i < its.length := by
        rcases Nat.lt_or_ge i its.length with z | z
        · exact z
        · rw [List.getElem?_eq_none z] at eu; cases eu
      simpa using this
    refine wpAny_pyNext_enum_itemC (Draws.tuple hd it a ane its.toArray) en ⟨ti, pt'⟩ iu ne (by simp only [List.mem_cons, List.not_mem_nil, or_false, not_or]; exact ⟨ne, Ne.symm ane2⟩) fun y hp tk hy out st2 ht hz kp => ?_
    have ey : y = u := by
      have q1 : its.toArray[i]? = some y := hy
      have q2 : its[i]? = some y := by simpa using q1
      rw [eu] at q2
      exact (Option.some.inj q2).symm
    subst ey
    refine ⟨_, rfl, wpAny_letOwnedTupleGo_enum (s := { s with heap := hp, toks := tk + 1 }) out fun hp2 en2 sb => ?_⟩
    have ht2 : hp2.get? s.heap.objs.size = some { cls := .type "tuple", data := .seq #[.int i tk, y] } := (sb.2 _ (Nat.ne_of_gt el)).trans ht
    have new : ObjOk X.prog X.w (upd H s.heap.objs.size (.tup [.int (i : Nat), x])) hp2 s.heap.objs.size (.tup [.int (i : Nat), x]) :=
      ⟨by show 2 ≤ sizeLine; decide, [.int i tk, y], .cons ⟨_, rfl⟩ (.cons ru .nil), ⟨_, ht2, rfl, _, rfl⟩⟩
    have I2 : Inv X pins σ (upd H s.heap.objs.size (.tup [.int (i : Nat), x])) { s with heap := hp2, toks := tk + 1 } :=
      I.turnedNew (ch := [e, it]) (fun b ob nb q => (sb.2 b fun z => nb (by rw [z]; exact List.mem_cons_self)).trans (kp b ob (fun z => nb (by rw [z]; exact List.mem_cons_self)) (fun z => nb (by rw [z]; exact List.mem_cons_of_mem _ List.mem_cons_self)) q)) hf (Nat.le_refl _) new
    refine ⟨.ref s.heap.objs.size, _, I2, rfl, ⟨_, x, rfl, I.hok.fresh (Nat.le_refl _), rfl, fun ys sy => by rw [I.tuple_inj sy sq]; exact ex⟩, ⟨⟨y, ?_⟩, st2.1.at fun o q => (sb.2 it (Ne.symm ne)).trans q, ne⟩, fun b hb => ?_⟩
    · rw [show ((i + 1 : Nat) : Int) = (i : Int) + 1 by omega]
      exact en2
    · have bl : b < s.heap.objs.size := by
        rcases List.mem_cons.mp hb with z | z
        · rw [z]; exact el
        · rw [List.mem_singleton.mp z]; exact il
      rw [upd_ne (Nat.ne_of_lt bl)]
      exact (hf b hb).1
  done := by
    intro X hP hw hK hc i pins s σ H E I hf st go
    subst hP hw hK
    obtain ⟨⟨old, en⟩, ti, ne⟩ := st
    obtain ⟨xs, sq, le⟩ := go
    obtain ⟨its, rv, pt, _⟩ := I.tuple sq
    have pt' : s.heap.IsTuple a its.toArray := pt
    have ane : a ≠ it := fun z => by
      obtain ⟨o1, e1, c1, _⟩ := ti
      obtain ⟨o2, e2, c2, _⟩ := pt'
      rw [z, e1] at e2
      cases e2
      rw [c1] at c2
      exact absurd c2 (by decide +kernel)
    obtain ⟨f0, f1, f2, f3, f4, f5⟩ := hf it (List.mem_cons_of_mem _ List.mem_cons_self)
    have hd : X.A.in1.handled = none := I.ok.hd hc
    have beyond : its.toArray[i]? = none := by
      rw [List.getElem?_toArray, List.getElem?_eq_none]
      rw [← rv.length]; exact le
    have hT : s.TypeIs (.ref e) "enumerate" := ⟨_, en, rfl⟩
    unfold pyNext
    refine wpAny_bind (wpAny_attempt (wpAny_callSpecial?_slot (name := Str.ofString "__next__") hT F.slot_enumerate_next (wpAny_call_entry F.slot_enumerate_next hT F.entry_enumerate_next ?_ (F.args_enumerate_next_1 (.ref e)))))
    show wpAny _ _ (field (.ref e) 2 >>= _) _ _ s
    refine wpAny_bind (wpAny_field en rfl (x := .ref it) rfl ?_)
    refine wpAny_bind (wpAny_nextOf_tuple_end hd ti pt' beyond fun hp xx ex0 ⟨ob, eo, co⟩ => ?_)
    refine wpAny_bind (wpAny_isInstance (T := "StopIteration") (b := true) ⟨ob, eo, co⟩ isSubtype_stop ?_)
    exact wpAny_pure ⟨rfl, I.turned (t' := s.toks) (fun b o nb q => ex0 b o nb q) f0 f1 f3 f4 f5⟩
  self := fun A i s Q E st q => wpAny_pyIter_enum st.1.choose_spec q
/-- enumerate of a list or of a tuple -/
def iEnA (K : PySem.W.Frag) (ta : TA) : TI := fun σ H R => ta σ H fun vs H1 => ∃ a xs, vs = [.ref a] ∧ ((SqL K H1 a xs ∧ R (Ite K a) H1) ∨ (SqT K H1 a xs ∧ R (IteT K a) H1))
theorem pi_enA {X : Cx} {e : Expr} {ta : TA} {p pos tp : Pos} {elts : List Expr} {kk : Nat} (hg : Gl X "enumerate") (hm : X.mg "enumerate" = none) (ha : PA X [e] ta) (hs : starEach [e] X.env = [(false, eval e X.env)]) :
    PI X (.Tuple elts kk tp) (.Call (.Name "enumerate" p) [e] [] pos) (iEnA X.K ta) := by
  constructor
  intro pins s σ H R I w
  refine Call_ (ld_blt I hg hm boot_enumerate (PyProof.Rows.callWith_type1 (thn (ha.run pos pins s σ H _ I w) fun us s1 ⟨vs, H1, I1, rr, a, xs, ev, cs⟩ => ?_) hs rfl))
  subst ev
  cases rr with
  | cons r0 rr =>
    cases rr
    cases r0
    have two : ∀ b, b ∈ [s1.heap.objs.size + 1, s1.heap.objs.size] → s1.heap.objs.size ≤ b := fun b hb => by
      rcases List.mem_cons.mp hb with z | z
      · rw [z]; exact Nat.le_succ _
      · rw [List.mem_singleton.mp z]; exact Nat.le_refl _
    rcases cs with ⟨sq, q⟩ | ⟨sq, q⟩
    · obtain ⟨its, rv, pl, _⟩ := I1.list sq
      refine call_enumerate_list pl.isList fun hp en li _ kp => wpAny_pyIter_enum en ?_
      exact ⟨_, _, _, _, H1, rfl, I1.kept (t' := s1.toks) kp, turn_enum a (s1.heap.objs.size + 1) s1.heap.objs.size, ⟨⟨.none, en⟩, li, Nat.succ_ne_self _⟩, fun b hb => I1.fpOk (two b hb) (I1.hok.fresh (two b hb)), q⟩
    · obtain ⟨its, rv, pt, _⟩ := I1.tuple sq
      refine enCall (begins_tuple a its.toArray) (show s1.heap.IsTuple a its.toArray from pt) fun hp en li _ kp => wpAny_pyIter_enum en ?_
      exact ⟨_, _, _, _, H1, rfl, I1.kept (t' := s1.toks) kp, enTurn a (s1.heap.objs.size + 1) s1.heap.objs.size, ⟨⟨.none, en⟩, ⟨_, li, rfl, rfl⟩, Nat.succ_ne_self _⟩, fun b hb => I1.fpOk (two b hb) (I1.hok.fresh (two b hb)), q⟩
end Pv
set_option Elab.async false
set_option linter.all false
set_option maxRecDepth 100000
set_option maxHeartbeats 4000000
/-! zip, enumerate; list comprehensions. -/
noncomputable section
namespace Pv
open PySem PySem.Spec PyProof.Rows L2 RZ

section
variable {X : Cx} {K : PySem.W.Frag} {m m' m1 m2 : Nat → Addr} {h h' h1 h2 : Hv} {H H' H1 H2 : Hp} {es es' : List D} {σ σ' : L2.St} {v : V} {d : D} {k : KD} {Q : VK} {e a b : Expr} {pos : Pos} {j n : Nat} {κ : KS} {E : Ends} {tg : Expr}

/-! ### pairs -/
/-- pairs at a turn: what stands at the heap after it -/
theorem pair_new (hs : HS K m h H) {vs : List V} {ds : List D} (r : RDs K m H h.n vs ds) (hd : ∀ {K : PySem.W.Frag} {m : Nat → Addr} {H : Hp} {n : Nat} {a : Addr} {vs : List V}, SqT K H a vs → RDs K m H n vs ds → RD K m H n (.ref a) d) {T : Addr} (nT : H T = none) :
    HS K m h (upd H T (.tup vs)) ∧ Ext m h H m h (upd H T (.tup vs)) ∧ RD K m (upd H T (.tup vs)) h.n (.ref T) d := by
  obtain ⟨w', ex⟩ := hs.fresh (ho := .tup vs) nT
  exact ⟨w', ex, hd SqT.new (r.mono ex hs)⟩
def stE (j : Nat) : Nat → Hv → (D → Bool) → Bool → Bool := fun i h k s => seqR j h fun ds => nthO ds i (fun x => mkT [.nat i, x] k) s
theorem stE_ok {j : Nat} (l : j < h.n) : DyOk K m h H (Ite K (m j)) (stE j) := by
  intro m' h' H' e hs i k s q
  obtain ⟨ds, vs, o, _, _, q2, hh, r⟩ := seqR_true hs (show seqR j h' _ = true from q)
  have hh' : H' (m j) = some (.lst vs) := by rw [← e.agr j l]; exact hh
  rcases nthO_true q2 with ⟨le, q3⟩ | ⟨d, ed, q3⟩
  · exact .inl ⟨⟨vs, SqL.of hh', by rw [r.length]; exact le⟩, q3⟩
  · obtain ⟨v, ev, rv⟩ := r.get ed
    obtain ⟨t, q4, ht⟩ := mkT_true q3
    refine .inr ⟨t, ⟨⟨vs, v, SqL.of hh', ev⟩, ?_⟩, q4⟩
    rintro x H2 ⟨T, y, rfl, nT, rfl, f⟩
    have e2 := f vs (SqL.of hh')
    rw [ev] at e2
    cases e2
    exact pair_new hs (.cons (.nat i) (.cons rv .nil)) ht nT
theorem enumA_true : ∀ {ds : List D} {i : Nat} {k : List D → Bool}, enumA ds i k = true → ∃ ts, k ts = true ∧ ts.length = ds.length ∧ ∀ (t : Nat) (x : D), ts[t]? = some x → ∃ d, ds[t]? = some d ∧ ∀ {K : PySem.W.Frag} {m : Nat → Addr} {H : Hp} {n : Nat} {a : Addr} {vs : List V}, SqT K H a vs → RDs K m H n vs [.nat (i + t), d] → RD K m H n (.ref a) x
  | [], i, k, q => ⟨[], q, rfl, fun t x e => by simp at e⟩
  | d :: r, i, k, q => by
    have q' : fN i (fun i => mkT [.nat i, d] fun t => enumA r (Nat.succ i) fun ts => k (t :: ts)) = true := q
    rw [fN_eq] at q'
    obtain ⟨t0, q2, ht⟩ := mkT_true q'
    obtain ⟨ts, q3, l, f⟩ := enumA_true q2
    refine ⟨t0 :: ts, q3, by rw [List.length_cons, List.length_cons, l], fun t x e => ?_⟩
    cases t with
    | zero => cases e; exact ⟨d, rfl, fun s r => ht s r⟩
    | succ t =>
      obtain ⟨d', e1, g⟩ := f t x (by simpa using e)
      refine ⟨d', by simpa using e1, fun s r => g s ?_⟩
      rw [show i.succ + t = i + (t + 1) by omega]
      exact r
def enT (ds : List D) (k : List D → Bool) : Bool := enumA ds 0 k
theorem fxE_ok {a : Addr} {vs : List V} {ds ts : List D} (w : HS K m h H) (s : SqT K H a vs) (r : RDs K m H h.n vs ds) (hl : ts.length = ds.length)
    (ht : ∀ (t : Nat) (x : D), ts[t]? = some x → ∃ d, ds[t]? = some d ∧ ∀ {K : PySem.W.Frag} {m : Nat → Addr} {H : Hp} {n : Nat} {a : Addr} {vs : List V}, SqT K H a vs → RDs K m H n vs [.nat (0 + t), d] → RD K m H n (.ref a) x) : FxOk K m h H (IteT K a) ts := by
  intro m' h' H' e hs
  have s' := e.tup _ _ s
  have r' := r.mono0 e
  refine ⟨fun i x ex => ?_, fun i l => ⟨vs, s', by rw [r'.length, ← hl]; exact l⟩⟩
  obtain ⟨d, ed, g⟩ := ht i x ex
  obtain ⟨v, ev, rv⟩ := r'.get ed
  refine ⟨⟨vs, v, s', ev⟩, ?_⟩
  rintro y H2 ⟨T, z, rfl, nT, rfl, f⟩
  have e2 := f vs s'
  rw [ev] at e2
  cases e2
  refine pair_new hs (.cons (.nat i) (.cons rv .nil)) (fun s r => g s ?_) nT
  rw [Nat.zero_add]
  exact r
def iEnu (a : ME) : MI := fun es h k => a es h fun x h => dc x nF nF (fun _ ds => enT ds fun ts => k (.fx ts) h) (fun ds => enT ds fun ts => k (.fx ts) h) (fun j => seqR j h fun ds => fN (Nat.succ (lenL ds)) fun n => k (.dy n (stE j)) h) aF
theorem ok_ienu {fa : ME} {elts : List Expr} {kk : Nat} {tp p : Pos} (hg : Gl X "enumerate") (hm : X.mg "enumerate" = none) (ha : PE X a (rdE X.K fa)) (hs : starEach [a] X.env = [(false, eval a X.env)]) : PI X (.Tuple elts kk tp) (.Call (.Name "enumerate" p) [a] [] pos) (rdI X.K (iEnu fa)) := by
  refine pi_mono (pi_enA hg hm (pa_cons ha pa_nil hs) hs) ?_
  rintro σ H R ⟨m, h, es, k, w, q, p⟩
  refine ⟨m, h, es, _, w, q, fun x m1 h1 H1 d e1 w1 r1 q1 => ?_⟩
  cases r1 with
  | tup s r z y =>
    obtain ⟨ts, q2, hl, ht⟩ := enumA_true (show enumA _ 0 _ = true from q1)
    exact ⟨_, _, rfl, .inr ⟨s, p _ (.fx ts) m1 h1 H1 e1 w1 (fxE_ok w1.hs s r hl ht) q2⟩⟩
  | tpr s r =>
    obtain ⟨ts, q2, hl, ht⟩ := enumA_true (show enumA _ 0 _ = true from q1)
    exact ⟨_, _, rfl, .inr ⟨s, p _ (.fx ts) m1 h1 H1 e1 w1 (fxE_ok w1.hs s r hl ht) q2⟩⟩
  | ref j l =>
    obtain ⟨ds, vs, o, _, _, q2, hh, r⟩ := seqR_true w1.hs (show seqR j h1 _ = true from q1)
    rw [fN_eq] at q2
    exact ⟨_, vs, rfl, .inl ⟨SqL.of hh, p _ (.dy _ (stE j)) m1 h1 H1 e1 w1 (stE_ok l) q2⟩⟩
  | _ => cases q1

/-! ### zip -/
def stZ (j l : Nat) : Nat → Hv → (D → Bool) → Bool → Bool := fun i h k s => seqR j h fun ds => seqR l h fun fs => nthO ds i (fun x => nthO fs i (fun y => mkT [x, y] k) s) s
theorem stZ_ok {j l : Nat} (hj : j < h.n) (hl : l < h.n) : DyOk K m h H (Itz K (m j) (m l)) (stZ j l) := by
  intro m' h' H' e hs i k s q
  obtain ⟨ds, vs, o, _, _, q2, hh, r⟩ := seqR_true hs (show seqR j h' _ = true from q)
  obtain ⟨fs, us, o2, _, _, q2, hh2, r2⟩ := seqR_true hs q2
  have hh' : H' (m j) = some (.lst vs) := by rw [← e.agr j hj]; exact hh
  have hh2' : H' (m l) = some (.lst us) := by rw [← e.agr l hl]; exact hh2
  rcases nthO_true q2 with ⟨le, q3⟩ | ⟨d, ed, q3⟩
  · exact .inl ⟨⟨vs, us, SqL.of hh', SqL.of hh2', .inl (by rw [r.length]; exact le)⟩, q3⟩
  · rcases nthO_true q3 with ⟨le, q3⟩ | ⟨f, ef, q3⟩
    · exact .inl ⟨⟨vs, us, SqL.of hh', SqL.of hh2', .inr (by rw [r2.length]; exact le)⟩, q3⟩
    · obtain ⟨v, ev, rv⟩ := r.get ed
      obtain ⟨u, eu, ru⟩ := r2.get ef
      obtain ⟨t, q4, ht⟩ := mkT_true q3
      refine .inr ⟨t, ⟨⟨vs, us, v, u, SqL.of hh', SqL.of hh2', ev, eu⟩, ?_⟩, q4⟩
      rintro x H2 ⟨T, y, z, rfl, nT, rfl, f1, f2⟩
      have e2 := f1 vs (SqL.of hh')
      rw [ev] at e2
      cases e2
      have e3 := f2 us (SqL.of hh2')
      rw [eu] at e3
      cases e3
      exact pair_new hs (.cons rv (.cons ru .nil)) ht nT
theorem zipL_true : ∀ {ds fs : List D} {k : List D → Bool}, zipL ds fs k = true → ∃ ts, k ts = true ∧ ts.length = min ds.length fs.length ∧ ∀ (t : Nat) (x : D), ts[t]? = some x → ∃ d f, ds[t]? = some d ∧ fs[t]? = some f ∧ ∀ {K : PySem.W.Frag} {m : Nat → Addr} {H : Hp} {n : Nat} {a : Addr} {vs : List V}, SqT K H a vs → RDs K m H n vs [d, f] → RD K m H n (.ref a) x
  | [], fs, k, q => ⟨[], q, by simp, fun t x e => by simp at e⟩
  | d :: r, [], k, q => ⟨[], q, by simp, fun t x e => by simp at e⟩
  | d :: r, f :: fs, k, q => by
    have q' : mkT [d, f] (fun t => zipL r fs fun ts => k (t :: ts)) = true := q
    obtain ⟨t0, q2, ht⟩ := mkT_true q'
    obtain ⟨ts, q3, l, g⟩ := zipL_true q2
    refine ⟨t0 :: ts, q3, by simp only [List.length_cons, l]; omega, fun t x e => ?_⟩
    cases t with
    | zero => cases e; exact ⟨d, f, rfl, rfl, fun s r => ht s r⟩
    | succ t =>
      obtain ⟨d', f', e1, e2, g⟩ := g t x (by simpa using e)
      exact ⟨d', f', by simpa using e1, by simpa using e2, fun s r => g s r⟩
theorem fxZ_ok {a b : Addr} {vs us : List V} {ds fs ts : List D} (w : HS K m h H) (s : SqT K H a vs) (r : RDs K m H h.n vs ds) (s2 : SqT K H b us) (r2 : RDs K m H h.n us fs) (hl : ts.length = min ds.length fs.length)
    (ht : ∀ (t : Nat) (x : D), ts[t]? = some x → ∃ d f, ds[t]? = some d ∧ fs[t]? = some f ∧ ∀ {K : PySem.W.Frag} {m : Nat → Addr} {H : Hp} {n : Nat} {a : Addr} {vs : List V}, SqT K H a vs → RDs K m H n vs [d, f] → RD K m H n (.ref a) x) : FxOk K m h H (ItzT K a b) ts := by
  intro m' h' H' e hs
  have s' := e.tup _ _ s
  have r' := r.mono0 e
  have s2' := e.tup _ _ s2
  have r2' := r2.mono0 e
  refine ⟨fun i x ex => ?_, fun i l => ⟨vs, us, s', s2', by rw [r'.length, r2'.length]; omega⟩⟩
  obtain ⟨d, f, ed, ef, g⟩ := ht i x ex
  obtain ⟨v, ev, rv⟩ := r'.get ed
  obtain ⟨u, eu, ru⟩ := r2'.get ef
  refine ⟨⟨vs, us, v, u, s', s2', ev, eu⟩, ?_⟩
  rintro y H2 ⟨T, z, z', rfl, nT, rfl, f1, f2⟩
  have e2 := f1 vs s'
  rw [ev] at e2
  cases e2
  have e3 := f2 us s2'
  rw [eu] at e3
  cases e3
  exact pair_new hs (.cons rv (.cons ru .nil)) (fun s r => g s r) nT
def zipK (ds : List D) (y : D) (h : Hv) (k : WI → Hv → Bool) : Bool := dc y nF nF (fun _ fs => zipL ds fs fun ts => k (.fx ts) h) (fun fs => zipL ds fs fun ts => k (.fx ts) h) nF aF
def iZp (a b : ME) : MI := fun es h k => a es h fun x h => b es h fun y h => dc x nF nF (fun _ ds => zipK ds y h k) (fun ds => zipK ds y h k)
  (fun j => dc y nF nF pF lF (fun l => seqR j h fun ds => seqR l h fun _ => fN (Nat.succ (lenL ds)) fun n => k (.dy n (stZ j l)) h) aF) aF
theorem ok_izp {fa fb : ME} {elts : List Expr} {kk : Nat} {tp p : Pos} (hg : Gl X "zip") (hm : X.mg "zip" = none) (ha : PE X a (rdE X.K fa)) (hb : PE X b (rdE X.K fb))
    (hs : starEach [a, b] X.env = (false, eval a X.env) :: starEach [b] X.env) (hs2 : starEach [b] X.env = [(false, eval b X.env)]) (hpl : (backTo pos (starEach [b] X.env)).any (·.1) = false) :
    PI X (.Tuple elts kk tp) (.Call (.Name "zip" p) [a, b] [] pos) (rdI X.K (iZp fa fb)) := by
  refine pi_mono (pi_zipA hg hm (pa_cons ha (pa_cons hb pa_nil hs2) hs) hs hpl) ?_
  rintro σ H R ⟨m, h, es, k, w, q, p⟩
  refine ⟨m, h, es, _, w, q, fun x m1 h1 H1 dx e1 w1 r1 q1 => ?_⟩
  refine ⟨m1, h1, es, _, w1, q1, fun y m2 h2 H2 dy e2 w2 r2 q2 => ?_⟩
  have rx := r1.mono e2 w1.hs
  have tt : ∀ {a : Addr} {vs : List V} {ds : List D}, SqT X.K H2 a vs → RDs X.K m2 H2 h2.n vs ds → zipK ds dy h2 k = true →
      ∃ b us, y = .ref b ∧ SqT X.K H2 b us ∧ R (ItzT X.K a b) H2 := fun {a vs ds} s r q => by
    cases r2 with
    | tup s2 r2 _ _ =>
      obtain ⟨ts, q3, hl, ht⟩ := zipL_true (show zipL _ _ _ = true from q)
      exact ⟨_, _, rfl, s2, p _ (.fx ts) m2 h2 H2 (e1.trans e2) w2 (fxZ_ok w2.hs s r s2 r2 hl ht) q3⟩
    | tpr s2 r2 =>
      obtain ⟨ts, q3, hl, ht⟩ := zipL_true (show zipL _ _ _ = true from q)
      exact ⟨_, _, rfl, s2, p _ (.fx ts) m2 h2 H2 (e1.trans e2) w2 (fxZ_ok w2.hs s r s2 r2 hl ht) q3⟩
    | _ => cases q
  cases rx with
  | tup s r z y =>
    obtain ⟨b, us, rfl, s2, fin⟩ := tt s r q2
    exact ⟨_, b, _, us, rfl, .inr ⟨s, s2, fin⟩⟩
  | tpr s r =>
    obtain ⟨b, us, rfl, s2, fin⟩ := tt s r q2
    exact ⟨_, b, _, us, rfl, .inr ⟨s, s2, fin⟩⟩
  | ref j lj =>
    cases r2 with
    | ref l ll =>
      obtain ⟨ds, vs, o, _, _, q3, hh, r⟩ := seqR_true w2.hs (show seqR j h2 _ = true from q2)
      obtain ⟨fs, us, o, _, _, q4, hh2, r2⟩ := seqR_true w2.hs q3
      rw [fN_eq] at q4
      exact ⟨_, _, vs, us, rfl, .inl ⟨SqL.of hh, SqL.of hh2, p _ (.dy _ (stZ j l)) m2 h2 H2 (e1.trans e2) w2 (stZ_ok lj ll) q4⟩⟩
    | _ => cases q2
  | _ => cases q2

/-! ### a list under way, not tracked -/
theorem sqT_updL {ad : Addr} {acc acc' : List V} (e : H ad = some (.lst acc)) {a : Addr} {xs : List V} (s : SqT K H a xs) : SqT K (upd H ad (.lst acc')) a xs := by
  rcases s with (r | ⟨o, r⟩) | r
  · exact .inl (.inl (by rw [upd_ne fun z => by rw [z, e] at r; cases r]; exact r))
  · exact .inl (.inr ⟨o, by rw [upd_ne fun z => by rw [z, e] at r; cases r]; exact r⟩)
  · exact .inr r
structure Lc (K : PySem.W.Frag) (ad : Addr) (m1 : Nat → Addr) (h1 : Hv) (H1 : Hp) (m : Nat → Addr) (h : Hv) (H : Hp) (acc : List V) (ds : List D) : Prop where
  ex : Ext m1 h1 H1 m h H
  hs : HS K m h H
  here : H ad = some (.lst acc)
  out : ∀ j, live h.m j → m j ≠ ad
  rd : RDs K m H h.n acc ds
variable {ad : Addr} {acc : List V} {ds : List D}
theorem Lc.start (w : HS K m1 h1 H1) (hD : H1 ad = none) : Lc K ad m1 h1 H1 m1 h1 (upd H1 ad (.lst [])) [] [] := by
  obtain ⟨w', ex⟩ := w.fresh (ho := .lst []) hD
  refine ⟨ex, w', upd_same, fun j q z => ?_, .nil⟩
  obtain ⟨vs, r, _⟩ := w.lst_at q
  rw [z, hD] at r
  cases r
theorem Lc.step (l : Lc K ad m1 h1 H1 m h H acc ds) (e : Ext m h H m' h' H') (w : HS K m' h' H') : Lc K ad m1 h1 H1 m' h' H' acc ds :=
  ⟨l.ex.trans e, w, (e.keep _ _ l.here l.out).1, (e.keep _ _ l.here l.out).2, l.rd.mono e l.hs⟩
theorem Lc.push (l : Lc K ad m1 h1 H1 m h H acc ds) (hD : H1 ad = none) {v : V} {d : D} (r : RD K m H h.n v d) : Lc K ad m1 h1 H1 m h (upd H ad (.lst (acc ++ [v]))) (acc ++ [v]) (ds ++ [d]) := by
  have ht : ∀ a xs, SqT K H a xs → SqT K (upd H ad (.lst (acc ++ [v]))) a xs := fun a xs s => sqT_updL l.here s
  have e0 : Ex0 K m h H m h (upd H ad (.lst (acc ++ [v]))) := ⟨Nat.le_refl _, fun _ _ => rfl, ht⟩
  refine ⟨⟨l.ex.le, l.ex.agr, fun a o e z => ?_, l.ex.live⟩, ⟨fun j o q => ?_, l.hs.inj, l.hs.srt⟩, upd_same, l.out, (l.rd.append (.cons r .nil)).mono0 (h := h) (h' := h) e0⟩
  · obtain ⟨q1, q2⟩ := l.ex.keep a o e z
    exact ⟨by rw [upd_ne (ne_of_none e hD)]; exact q1, q2⟩
  · obtain ⟨lt, od⟩ := l.hs.obj j o q
    have ne : m j ≠ ad := l.out j (by unfold live; rw [q]; rfl)
    refine ⟨lt, ?_⟩
    cases o with
    | lst ds => obtain ⟨vs, r, s⟩ := od; exact ⟨vs, by rw [upd_ne ne]; exact r, s.mono0 (h := h) (h' := h) e0⟩
    | dct ks vs =>
      obtain ⟨wd, xs, us, r, s, l1, nd, rk, ek, kk, rv, vv⟩ := od
      exact ⟨wd, xs, us, by rw [upd_ne ne]; exact r, s, l1, nd, rk.mono0 (h := h) (h' := h) e0, ek, kk, rv.mono0 (h := h) (h' := h) e0, vv⟩
    | tin => obtain ⟨x, y, z, nn, r⟩ := od; exact ⟨x, y, z, nn, by rw [upd_ne ne]; exact r⟩
theorem Lc.push0 (l : Lc K ad m1 h1 H1 m h H acc ds) {v : V} : Ex0 K m h H m h (upd H ad (.lst (acc ++ [v]))) := ⟨Nat.le_refl _, fun _ _ => rfl, fun a xs s => sqT_updL l.here s⟩
/-- the list is tracked from now on -/
theorem Lc.fin (l : Lc K ad m1 h1 H1 m h H acc ds) (hD : H1 ad = none) : ∃ m2, HS K m2 ⟨h.n + 1, (h.n, .lst ds) :: h.m⟩ H ∧ Ext m1 h1 H1 m2 ⟨h.n + 1, (h.n, .lst ds) :: h.m⟩ H ∧ RD K m2 H (h.n + 1) (.ref ad) (.ref h.n) := by
  let m2 : Nat → Addr := fun j => if j = h.n then ad else m j
  have lkc : ∀ j, lk ((h.n, LO.lst ds) :: h.m) j = if h.n = j then some (.lst ds) else lk h.m j := fun j => rfl
  have lt : ∀ j, Pv.live h.m j → j < h.n := fun j q => by
    unfold Pv.live at q
    cases e : lk h.m j with
    | none => rw [e] at q; cases q
    | some u => exact (l.hs.obj j u e).1
  have m2n : m2 h.n = ad := if_pos rfl
  have m2o : ∀ j, j ≠ h.n → m2 j = m j := fun j hj => if_neg hj
  have ag : ∀ j, j < h.n → m2 j = m j := fun j hj => m2o j (Nat.ne_of_lt hj)
  -- readings go over
  have go : ∀ {vs : List V} {ds : List D}, RDs K m H h.n vs ds → RDs K m2 H (h.n + 1) vs ds := fun {vs ds} r =>
    r.mono (h := ⟨h.n, []⟩) (h' := ⟨h.n + 1, []⟩) ⟨Nat.le_succ _, ag, fun a o e z => ⟨e, fun j z => (nomatch z)⟩, fun j z => (nomatch z)⟩ ⟨fun j o z => (nomatch z), fun i j z => (nomatch z), List.Pairwise.nil⟩
  have lv : ∀ j, Pv.live ((h.n, LO.lst ds) :: h.m) j → j = h.n ∨ (j ≠ h.n ∧ Pv.live h.m j) := fun j q => by
    by_cases hj : j = h.n
    · exact .inl hj
    · unfold Pv.live at q ⊢
      rw [lkc, if_neg (fun e => hj e.symm)] at q
      exact .inr ⟨hj, q⟩
  refine ⟨m2, ⟨fun j o q => ?_, fun i j q1 q2 z => ?_, List.pairwise_cons.mpr ⟨fun j z => l.hs.keys j z, l.hs.srt⟩⟩, ⟨Nat.le_succ_of_le l.ex.le, fun j hj => ?_, fun a o e z => ?_, fun j q => ?_⟩, ?_⟩
  · have q' : lk ((h.n, LO.lst ds) :: h.m) j = some o := q
    rw [lkc] at q'
    by_cases hj : h.n = j
    · rw [if_pos hj] at q'
      cases q'
      subst hj
      exact ⟨Nat.lt_succ_self _, acc, by rw [m2n]; exact l.here, go l.rd⟩
    · rw [if_neg hj] at q'
      obtain ⟨lt, od⟩ := l.hs.obj j o q'
      refine ⟨Nat.lt_succ_of_lt lt, ?_⟩
      rw [m2o j fun e => hj e.symm]
      cases o with
      | lst ds => obtain ⟨vs, r, s⟩ := od; exact ⟨vs, r, go s⟩
      | dct ks vs =>
        obtain ⟨wd, xs, us, r, s, l1, nd, rk, ek, kk, rv, vv⟩ := od
        exact ⟨wd, xs, us, r, s, l1, nd, go rk, ek, kk, go rv, vv⟩
      | tin => obtain ⟨x, y, z, nn, r⟩ := od; exact ⟨x, y, z, nn.succ, r⟩
  · rcases lv i q1 with a1 | ⟨a1, b1⟩ <;> rcases lv j q2 with a2 | ⟨a2, b2⟩
    · rw [a1, a2]
    · rw [a1, m2n, m2o j a2] at z; exact absurd z.symm (l.out j b2)
    · rw [a2, m2n, m2o i a1] at z; exact absurd z (l.out i b1)
    · rw [m2o i a1, m2o j a2] at z; exact l.hs.inj i j b1 b2 z
  · rw [ag j (Nat.lt_of_lt_of_le hj l.ex.le)]
    exact l.ex.agr j hj
  · obtain ⟨q1, q2⟩ := l.ex.keep a o e z
    refine ⟨q1, fun j q => ?_⟩
    rcases lv j q with a1 | ⟨a1, b1⟩
    · rw [a1, m2n]; exact fun z => by rw [z, e] at hD; cases hD
    · rw [m2o j a1]; exact q2 j b1
  · have q' := l.ex.live j q
    unfold Pv.live at q' ⊢
    have := lt j q'
    rw [lkc, if_neg (by omega)]
    exact q'
  · have r : RD K m2 H (h.n + 1) (.ref (m2 h.n)) (.ref h.n) := .ref h.n (Nat.lt_succ_self _)
    rw [m2n] at r
    exact r
end
end Pv
set_option Elab.async false
set_option linter.all false
set_option maxRecDepth 100000
set_option maxHeartbeats 4000000
/-! List comprehensions, one clause and two. -/
noncomputable section
namespace Pv
open PySem PySem.Spec PyProof.Rows L2 RZ

abbrev KL := List D → Nat → Hv → Bool
abbrev MB := List D → List D → Nat → Hv → KL → Bool
def cpFx (g : MGh) (b : MB) (es : List D) (fin : KL) (items : List D) : KL := @List.rec D (fun _ => KL) fin (fun x _ ih acc c h => g x es h fun es1 => b es1 acc c h ih) items
def cpDy (g : MGh) (b : MB) (es : List D) (fin : KL) (st : Nat → Hv → (D → Bool) → Bool → Bool) (n : Nat) : Nat → KL := @Nat.rec (fun _ => Nat → KL) (fun _ _ _ _ => false) (fun _ ih i acc c h => st i h (fun x => g x es h fun es1 => fN (Nat.succ i) fun i1 => b es1 acc c h fun acc c h => ih i1 acc c h) (fin acc c h)) n
def cpW (it : WI) (g : MGh) (b : MB) (es : List D) (fin : KL) (acc : List D) (c : Nat) (h : Hv) : Bool := @WI.rec (fun _ => Bool) (fun ds => cpFx g b es fin ds acc c h) (fun n st => cpDy g b es fin st n 0 acc c h) it
def cpPush (d : D) (acc : List D) (c : Nat) (h : Hv) (ih : KL) : Bool := bsel (Nat.blt c 16777216) (fN (Nat.succ c) fun c => ih (d :: acc) c h) false
/-- one clause: the test, the item -/
def bd1 (t : MT) (e : ME) : MB := fun es acc c h ih => t es h fun x h => bsel x (e es h fun d h => cpPush d acc c h ih) (ih acc c h)
def bd0 (e : ME) : MB := fun es acc c h ih => e es h fun d h => cpPush d acc c h ih
/-- a clause with another one within -/
def bd2 (t : MT) (i : MI) (g : MGh) (b : MB) (vs1 : List Nat) : MB := fun es acc c h ih => t es h fun x h => bsel x (i es h fun it h => cpW it g b (wE es vs1) ih acc c h) (ih acc c h)
def lcEnd (k : KD) : KL := fun acc _ h => alloc (.lst (revL acc)) h k
def eLc (i : MI) (g : MGh) (b : MB) (vs : List Nat) : ME := fun es h k => i es h fun it h => cpW it g b (wE es vs) (lcEnd k) [] 0 h
def tY : MT := fun _ h k => k true h

section
variable {X : Cx} {K : PySem.W.Frag} {m m' m1 m2 : Nat → Addr} {h h' h1 h2 : Hv} {H H' H1 H2 : Hp} {es es' es0 : List D} {σ σ' σ0 : L2.St} {v : V} {d : D} {k : KD} {Q : VK} {e a b : Expr} {pos : Pos} {j n : Nat} {κ : KS} {E : Ends} {tg : Expr} {ad : Addr}
theorem pts_mono {t t' : TT} {ifs : List Expr} (h : PTs X ifs t) (hm : ∀ σ H Q, t' σ H Q → t σ H Q) : PTs X ifs t' := ⟨fun pins s σ H Q I w => h.run pins s σ H Q I (hm σ H Q w)⟩
theorem ok_tY : PTs X [] (rdT K tY) := by
  refine pts_mono pts_nil ?_
  rintro σ H Q ⟨m, h, es, k, w, q, p⟩
  exact p true m h H Ext.refl w q

/-- the state of a comprehension under way -/
structure Lv (K : PySem.W.Frag) (ad : Addr) (m1 : Nat → Addr) (h1 : Hv) (H1 : Hp) (m : Nat → Addr) (h : Hv) (H : Hp) (acc : List D) (c : Nat) : Prop where
  lc : ∃ vals, Lc K ad m1 h1 H1 m h H vals acc.reverse
  len : acc.length = c
theorem Lv.step {acc : List D} {c : Nat} (l : Lv K ad m1 h1 H1 m h H acc c) (e : Ext m h H m' h' H') (w : HS K m' h' H') : Lv K ad m1 h1 H1 m' h' H' acc c :=
  ⟨l.lc.imp fun _ z => z.step e w, l.len⟩
/-- the walk of one clause -/
theorem cp_loop {it : WI} {J : It} {g : MGh} {fb : MB} {fin : KL} {m0 ms : Nat → Addr} {h0 hs : Hv} {H0 Hs : Hp} {acc0 : List D} {c0 : Nat} {Turn : V → Hp → (Hp → Prop) → Prop} {Qd : Hp → Prop}
    (ok : WOk K m0 h0 H0 J it) (x0 : Ex0 K m0 h0 H0 ms hs Hs) (l0 : Lv K ad m1 h1 H1 ms hs Hs acc0 c0) (s0 : Sl K m0 H0 h0.n es σ) (q0 : cpW it g fb es fin acc0 c0 hs = true)
    (turn : ∀ m h H d x acc c ih (N : Hp → Prop), Ex0 K m0 h0 H0 m h H → Lv K ad m1 h1 H1 m h H acc c → Sl K m H h.n es σ → RD K m H h.n x d → (g d es h fun es1 => fb es1 acc c h ih) = true →
      (∀ m' h' H' acc' c', Ex0 K m0 h0 H0 m' h' H' → Lv K ad m1 h1 H1 m' h' H' acc' c' → ih acc' c' h' = true → N H') → Turn x H N)
    (done : ∀ m h H acc c, Ex0 K m0 h0 H0 m h H → Lv K ad m1 h1 H1 m h H acc c → fin acc c h = true → Qd H) :
    ∃ Wv : Nat → Nat → Hp → Prop, (∃ m, Wv 0 m Hs) ∧ ∀ i m H, Wv i m H →
      (J.stop i H ∧ Qd H) ∨ (J.go i H ∧ ∃ N : Hp → Prop, (∀ H', N H' → ∃ m', m' < m ∧ Wv (i + 1) m' H') ∧ ∀ x H', J.yld i H x H' → Turn x H' N) := by
  cases it with
  | fx ds =>
    let Wv : Nat → Nat → Hp → Prop := fun i mm H => ∃ m h acc c, mm = ds.length - i ∧ i ≤ ds.length ∧ Ex0 K m0 h0 H0 m h H ∧ Lv K ad m1 h1 H1 m h H acc c ∧ cpFx g fb es fin (ds.drop i) acc c h = true
    refine ⟨Wv, ⟨ds.length, ms, hs, acc0, c0, rfl, Nat.zero_le _, x0, l0, q0⟩, ?_⟩
    rintro i mm H ⟨m, h, acc, c, rfl, hi, ex, l, q⟩
    obtain ⟨_, lc⟩ := l.lc
    obtain ⟨y, st⟩ := ok m h H ex lc.hs
    by_cases hlt : i < ds.length
    · have ed : ds[i]? = some ds[i] := List.getElem?_eq_getElem hlt
      rw [List.drop_eq_getElem_cons hlt] at q
      obtain ⟨go, yy⟩ := y i _ ed
      refine .inr ⟨go, fun H' => Wv (i + 1) (ds.length - (i + 1)) H', fun H' z => ⟨_, by omega, z⟩, fun x H2 hy => ?_⟩
      obtain ⟨hs2, e2, r2⟩ := yy x H2 hy
      have x2 := ex.trans (e2.weak lc.hs)
      refine turn m h H2 ds[i] x acc c _ _ x2 (l.step e2 hs2) (s0.mono0 x2) r2 q fun m' h' H' acc' c' x' l' q' => ?_
      exact ⟨m', h', acc', c', rfl, hlt, x', l', q'⟩
    · have e : i = ds.length := by omega
      subst e
      rw [List.drop_length] at q
      exact .inl ⟨st _ (Nat.le_refl _), done m h H acc c ex l q⟩
  | dy nn st =>
    let Wv : Nat → Nat → Hp → Prop := fun i mm H => ∃ m h acc c, Ex0 K m0 h0 H0 m h H ∧ Lv K ad m1 h1 H1 m h H acc c ∧ cpDy g fb es fin st mm i acc c h = true
    refine ⟨Wv, ⟨nn, ms, hs, acc0, c0, x0, l0, q0⟩, ?_⟩
    rintro i mm H ⟨m, h, acc, c, ex, l, q⟩
    obtain ⟨_, lc⟩ := l.lc
    cases mm with
    | zero => cases q
    | succ mm =>
      have q' : st i h (fun x => g x es h fun es1 => fN (Nat.succ i) fun i1 => fb es1 acc c h fun acc c h => cpDy g fb es fin st mm i1 acc c h) (fin acc c h) = true := q
      rcases ok m h H ex lc.hs i _ _ q' with ⟨stop, q2⟩ | ⟨d, ⟨go, yy⟩, q2⟩
      · exact .inl ⟨stop, done m h H acc c ex l q2⟩
      · refine .inr ⟨go, fun H' => Wv (i + 1) mm H', fun H' z => ⟨mm, Nat.lt_succ_self _, z⟩, fun x H2 hy => ?_⟩
        obtain ⟨hs2, e2, r2⟩ := yy x H2 hy
        have x2 := ex.trans (e2.weak lc.hs)
        simp only [fN_eq] at q2
        refine turn m h H2 d x acc c _ _ x2 (l.step e2 hs2) (s0.mono0 x2) r2 q2 fun m' h' H' acc' c' x' l' q' => ?_
        exact ⟨m', h', acc', c', x', l', q'⟩
/-- an item is put to the list -/
theorem push_ok {acc : List D} {c : Nat} {ih : KL} {N : Hp → Prop} (hD : H1 ad = none) (l : Lv K ad m1 h1 H1 m h H acc c) (r : RD K m H h.n v d) (q : cpPush d acc c h ih = true)
    (nx : ∀ H' acc' c', Ex0 K m h H m h H' → Lv K ad m1 h1 H1 m h H' acc' c' → ih acc' c' h = true → N H') : ∃ vals, H ad = some (.lst vals) ∧ vals.length < sizeLine ∧ N (upd H ad (.lst (vals ++ [v]))) := by
  obtain ⟨vals, lc⟩ := l.lc
  obtain ⟨q1, q2⟩ := bsel_tf (show bsel (Nat.blt c 16777216) _ false = true from q)
  rw [fN_eq] at q2
  have lt : c < 16777216 := blt_lt q1
  refine ⟨vals, lc.here, ?_, nx _ (d :: acc) (c + 1) (lc.push0) ⟨⟨vals ++ [v], ?_⟩, by rw [List.length_cons, l.len]⟩ q2⟩
  · rw [lc.rd.length, List.length_reverse, l.len, sizeLine_eq]
    exact lt
  · rw [List.reverse_cons]
    exact lc.push hD r
/-- what a turn of the innermost clause asks -/
def TurnE (ad : Addr) (tt : TT) (te : TE) (σ : L2.St) (H : Hp) (N : Hp → Prop) : Prop :=
  tt σ H fun b H3 => if b = true then te σ H3 fun y H4 => ∃ acc, H4 ad = some (.lst acc) ∧ acc.length < sizeLine ∧ N (upd H4 ad (.lst (acc ++ [y]))) else N H3
def BodyOk (K : PySem.W.Frag) (fb : MB) (T : Addr → L2.St → Hp → (Hp → Prop) → Prop) : Prop :=
  ∀ ad m1 h1 H1 m h H es σ acc c ih (N : Hp → Prop), H1 ad = none → Lv K ad m1 h1 H1 m h H acc c → W K m h H es σ → fb es acc c h ih = true →
    (∀ m' h' H' acc' c', Ex0 K m h H m' h' H' → Lv K ad m1 h1 H1 m' h' H' acc' c' → ih acc' c' h' = true → N H') → T ad σ H N
theorem bd1_ok {ft : MT} {fe : ME} : BodyOk K (bd1 ft fe) fun ad => TurnE ad (rdT K ft) (rdE K fe) := by
  intro ad m1 h1 H1 m h H es σ acc c ih N hD l w q nx
  refine ⟨m, h, es, _, w, q, fun x m2 h2 H2 e2 w2 q2 => ?_⟩
  cases x with
  | true =>
    rw [if_pos rfl]
    refine ⟨m2, h2, es, _, w2, q2, fun y m3 h3 H3 dy e3 w3 r3 q3 => ?_⟩
    have x3 := (e2.weak w.hs).trans (e3.weak w2.hs)
    exact push_ok hD ((l.step e2 w2.hs).step e3 w3.hs) r3 q3 fun H' acc' c' x' l' q' => nx m3 h3 H' acc' c' (x3.trans x') l' q'
  | false =>
    rw [if_neg Bool.false_ne_true]
    exact nx m2 h2 H2 acc c (e2.weak w.hs) (l.step e2 w2.hs) q2
theorem bd0_ok {fe : ME} : BodyOk K (bd0 fe) fun ad => TurnE ad tYes (rdE K fe) := by
  intro ad m1 h1 H1 m h H es σ acc c ih N hD l w q nx
  dsimp only [TurnE, tYes]
  rw [if_pos rfl]
  refine ⟨m, h, es, _, w, q, fun y m3 h3 H3 dy e3 w3 r3 q3 => ?_⟩
  exact push_ok hD (l.step e3 w3.hs) r3 q3 fun H' acc' c' x' l' q' => nx m3 h3 H' acc' c' ((e3.weak w.hs).trans x') l' q'
theorem wipe_wipe : ∀ (us : List Nat) {vs : List Nat} {σ : L2.St}, (∀ i ∈ us, i ∈ vs) → L2.wipe (L2.wipe σ us) vs = L2.wipe σ vs
  | [], _, _, _ => rfl
  | u :: us, vs, σ, hu => by
    show L2.wipe ((L2.wipe σ us).set u none) vs = _
    rw [wipe_set (hu u List.mem_cons_self)]
    exact wipe_wipe us fun i hi => hu i (List.mem_cons_of_mem _ hi)
/-- the end: the list is tracked -/
theorem lc_done {p : Po K m1 h1 H1 es σ k Q} {acc : List D} {c : Nat} (hD : H1 ad = none) (w : W K m1 h1 H1 es σ) (l : Lv K ad m1 h1 H1 m h H acc c) (q : lcEnd k acc c h = true) : Q (.ref ad) H := by
  obtain ⟨vals, lc⟩ := l.lc
  obtain ⟨m2, hs2, e2, r2⟩ := lc.fin hD
  have q' : alloc (.lst (revL acc)) h k = true := q
  rw [alloc_eq, revL_eq] at q'
  exact p _ m2 _ H _ e2 (w.mono e2 hs2) r2 q'
variable {elt iter iter1 tg1 : Expr} {ifs ifs1 : List Expr} {scope : Scope} {own : List (Str × Nat)} {vs1 : List Nat}
abbrev Blk (X : Cx) (scope : Scope) (P : Cx → Prop) : Prop := ∀ (s : Shared) (H : Hp) (C : Addr) (cl : List (Str × Addr)) (fp : List Addr), P (X.blk s H scope (compEnvC scope cl C X.env) fp)
theorem lc_mono {fi : MI} {g : MGh} {S vs : List Nat} {fb : MB} {tt : TT} {te : TE} (hb : BodyOk K fb fun ad => TurnE ad tt te) (hS : ∀ i ∈ S, i ∈ vs) :
    ∀ σ H Q, rdE K (eLc fi g fb vs) σ H Q → tLc (rdI K fi) (rdG K g S) tt te vs σ H Q := by
  rintro σ H Q ⟨m, h, es, k, w, q, p⟩
  refine ⟨m, h, es, _, w, q, fun J it m1 h1 H1 e1 w1 ok q1 ad hD => ?_⟩
  have st := Lc.start w1.hs hD
  refine cp_loop (K := K) (ad := ad) (m1 := m1) (h1 := h1) (H1 := H1) (es := wE es vs) (σ := L2.wipe σ vs) (Turn := fun x H' N => rdG K g S x (L2.wipe σ vs) H' fun σ2 H2 => L2.wipe σ2 vs = L2.wipe σ vs ∧ TurnE ad tt te σ2 H2 N) ok (st.ex.weak w1.hs) (⟨⟨[], st⟩, rfl⟩ : Lv K ad m1 h1 H1 m1 h1 _ [] 0) (w1.sl.wipe vs) q1 ?_ ?_
  · intro m2 h2 H2 d x acc c ih N x2 l2 s2 r2 q2 nx
    obtain ⟨_, lc2⟩ := l2.lc
    refine ⟨m2, h2, _, d, _, ⟨lc2.hs, s2⟩, r2, q2, fun es3 σ3 w3 a3 q3 => ⟨?_, ?_⟩⟩
    · rw [a3 vs hS, wipe_wipe vs fun i hi => hi]
    · exact hb ad m1 h1 H1 m2 h2 H2 es3 σ3 acc c ih N hD l2 w3 q3 fun m' h' H' acc' c' x' l' q' => nx m' h' H' acc' c' (x2.trans x') l' q'
  · intro m2 h2 H2 acc c x2 l2 q2
    exact lc_done (p := p.mono e1) hD w1 l2 q2
theorem ok_lc {fi : MI} {g : MGh} {S : List Nat} {fb : MB} {tt : TT} {te : TE} (hb : BodyOk X.K fb fun ad => TurnE ad tt te) (hc : X.calm = true) (hN : X.N.Nodup) (hi : PI X tg iter (rdI X.K fi)) (ok : BlkOk X.N X.env.scope scope own) (hS : ∀ i ∈ S, i ∈ own.map (·.2))
    (hg : Blk X scope fun Y => PG Y tg (rdG X.K g S)) (ht : Blk X scope fun Y => PTs Y ifs tt) (he : Blk X scope fun Y => PE Y elt te) (hs : ∀ x, foldedSetIterable iter X.env x = pure x) :
    PE X (.ListComp elt [⟨tg, iter, ifs, 0⟩] scope pos) (rdE X.K (eLc fi g fb (own.map (·.2)))) :=
  pe_mono (pe_lc hc hN hi ok hg ht he hs) (lc_mono hb hS)
/-- name = [..] on one line -/
theorem ok_setLc {fi : MI} {g : MGh} {S : List Nat} {fb : MB} {tt : TT} {te : TE} {i : Nat} {y : Str} {py spos : Pos} (hb : BodyOk X.K fb fun ad => TurnE ad tt te) (hc : X.calm = true) (hN : X.N.Nodup) (hy : X.N[i]? = some y) (hyl : X.env.scope.names.lookup y = some .local)
    (hsw : swapsWith (.ListComp elt [⟨tg, iter, ifs, 0⟩] scope pos) (some (.Name y py)) spos.line X.env = pure true) (hi : PI X tg iter (rdI X.K fi)) (ok : BlkOk X.N X.env.scope scope own) (hS : ∀ i ∈ S, i ∈ own.map (·.2))
    (hg : Blk X scope fun Y => PG Y tg (rdG X.K g S)) (ht : Blk X scope fun Y => PTs Y ifs tt) (he : Blk X scope fun Y => PE Y elt te) (hs : ∀ x, foldedSetIterable iter X.env x = pure x) :
    PS X (.Assign [.Name y py] (.ListComp elt [⟨tg, iter, ifs, 0⟩] scope pos) spos) (rdS X.K (sSet i (eLc fi g fb (own.map (·.2))))) := by
  refine ps_mono (ps_setLc hc hN hy hyl hsw hi ok hg ht he hs) ?_
  rintro E σ H ⟨m, h, es, κ, w, q, p⟩
  refine lc_mono hb hS σ H _ ⟨m, h, es, _, w, q, fun v m1 h1 H1 d e1 w1 r1 q1 => p.nx m1 h1 H1 _ _ e1 (w1.set i r1) q1⟩

/-! ### two clauses -/
theorem lc2_mono {fi fi1 : MI} {g g1 : MGh} {S S1 vs vs1 : List Nat} {ft : MT} {fb : MB} {tt1 : TT} {te : TE} (hb : BodyOk K fb fun ad => TurnE ad tt1 te) (hS : ∀ i ∈ S, i ∈ vs) (hS1 : ∀ i ∈ S1, i ∈ vs1) :
    ∀ σ H Q, rdE K (eLc fi g (bd2 ft fi1 g1 fb vs1) vs) σ H Q → tLc2 (rdI K fi) (rdG K g S) (rdT K ft) (rdI K fi1) (rdG K g1 S1) tt1 te vs vs1 σ H Q := by
  rintro σ H Q ⟨m, h, es, k, w, q, p⟩
  refine ⟨m, h, es, _, w, q, fun J it m1 h1 H1 e1 w1 ok q1 ad hD => ?_⟩
  have st := Lc.start w1.hs hD
  refine cp_loop (K := K) (ad := ad) (m1 := m1) (h1 := h1) (H1 := H1) (es := wE es vs) (σ := L2.wipe σ vs) (Turn := fun x H' N => rdG K g S x (L2.wipe σ vs) H' fun σ2 H2 => L2.wipe σ2 vs = L2.wipe σ vs ∧ rdT K ft σ2 H2 fun b H3 =>
    if b = true then rdI K fi1 σ2 H3 fun J1 H4 => ∃ W1 : Nat → Nat → Hp → Prop, (∃ m, W1 0 m H4) ∧ ∀ j k H, W1 j k H →
      (J1.stop j H ∧ N H) ∨ (J1.go j H ∧ ∃ Nx1 : Hp → Prop, (∀ H', Nx1 H' → ∃ k', k' < k ∧ W1 (j + 1) k' H') ∧ ∀ x H', J1.yld j H x H' → rdG K g1 S1 x (L2.wipe σ2 vs1) H' fun σ3 H5 => L2.wipe σ3 vs1 = L2.wipe σ2 vs1 ∧ TurnE ad tt1 te σ3 H5 Nx1) else N H3) ok (st.ex.weak w1.hs) (⟨⟨[], st⟩, rfl⟩ : Lv K ad m1 h1 H1 m1 h1 _ [] 0) (w1.sl.wipe vs) q1 ?_ ?_
  · intro m2 h2 H2 d x acc c ih N x2 l2 s2 r2 q2 nx
    obtain ⟨_, lc2⟩ := l2.lc
    refine ⟨m2, h2, _, d, _, ⟨lc2.hs, s2⟩, r2, q2, fun es3 σ3 w3 a3 q3 => ⟨?_, ?_⟩⟩
    · rw [a3 vs hS, wipe_wipe vs fun i hi => hi]
    · refine ⟨m2, h2, es3, _, w3, q3, fun b m4 h4 H4 e4 w4 q4 => ?_⟩
      have x4 := x2.trans (e4.weak w3.hs)
      have l4 := l2.step e4 w4.hs
      cases b with
      | false =>
        show if false = true then _ else _
        rw [if_neg Bool.false_ne_true]
        exact nx m4 h4 H4 acc c x4 l4 q4
      | true =>
        show if true = true then _ else _
        rw [if_pos rfl]
        refine ⟨m4, h4, es3, _, w4, q4, fun J1 it1 m5 h5 H5 e5 w5 ok5 q5 => ?_⟩
        have x5 := x4.trans (e5.weak w4.hs)
        refine cp_loop (K := K) (ad := ad) (m1 := m1) (h1 := h1) (H1 := H1) (es := wE es3 vs1) (σ := L2.wipe σ3 vs1) (Turn := fun x H' Nx1 => rdG K g1 S1 x (L2.wipe σ3 vs1) H' fun σ4 H5 => L2.wipe σ4 vs1 = L2.wipe σ3 vs1 ∧ TurnE ad tt1 te σ4 H5 Nx1) ok5 Ex0.refl (l4.step e5 w5.hs) (w5.sl.wipe vs1) q5 ?_ ?_
        · intro m6 h6 H6 d6 x6 acc6 c6 ih6 N6 y6 l6 s6 r6 q6 nx6
          obtain ⟨_, lc6⟩ := l6.lc
          refine ⟨m6, h6, _, d6, _, ⟨lc6.hs, s6⟩, r6, q6, fun es7 σ7 w7 a7 q7 => ⟨?_, ?_⟩⟩
          · rw [a7 vs1 hS1, wipe_wipe vs1 fun i hi => hi]
          · exact hb ad m1 h1 H1 m6 h6 H6 es7 σ7 acc6 c6 ih6 N6 hD l6 w7 q7 fun m' h' H' acc' c' x' l' q' => nx6 m' h' H' acc' c' (y6.trans x') l' q'
        · intro m6 h6 H6 acc6 c6 y6 l6 q6
          exact nx m6 h6 H6 acc6 c6 (x5.trans y6) l6 q6
  · intro m2 h2 H2 acc c x2 l2 q2
    exact lc_done (p := p.mono e1) hD w1 l2 q2
theorem ok_lc2 {fi fi1 : MI} {g g1 : MGh} {S S1 : List Nat} {ft : MT} {fb : MB} {tt1 : TT} {te : TE} (hb : BodyOk X.K fb fun ad => TurnE ad tt1 te) (hc : X.calm = true) (hN : X.N.Nodup) (hi : PI X tg iter (rdI X.K fi)) (ok : BlkOk X.N X.env.scope scope own) (hv : ∀ i ∈ vs1, i ∈ own.map (·.2)) (hS : ∀ i ∈ S, i ∈ own.map (·.2)) (hS1 : ∀ i ∈ S1, i ∈ vs1)
    (hg : Blk X scope fun Y => PG Y tg (rdG X.K g S)) (ht : Blk X scope fun Y => PTs Y ifs (rdT X.K ft)) (hi1 : Blk X scope fun Y => PI Y tg1 iter1 (rdI X.K fi1)) (hg1 : Blk X scope fun Y => PG Y tg1 (rdG X.K g1 S1)) (ht1 : Blk X scope fun Y => PTs Y ifs1 tt1) (he : Blk X scope fun Y => PE Y elt te)
    (hs : ∀ x, foldedSetIterable iter X.env x = pure x) (hs1 : ∀ env x, foldedSetIterable iter1 env x = pure x) :
    PE X (.ListComp elt [⟨tg, iter, ifs, 0⟩, ⟨tg1, iter1, ifs1, 0⟩] scope pos) (rdE X.K (eLc fi g (bd2 ft fi1 g1 fb vs1) (own.map (·.2)))) :=
  pe_mono (pe_lc2 hc hN hi ok hv hg ht hi1 hg1 ht1 he hs hs1) (lc2_mono hb hS hS1)
theorem ok_setLc2 {fi fi1 : MI} {g g1 : MGh} {S S1 : List Nat} {ft : MT} {fb : MB} {tt1 : TT} {te : TE} {i : Nat} {y : Str} {py spos : Pos} (hb : BodyOk X.K fb fun ad => TurnE ad tt1 te) (hc : X.calm = true) (hN : X.N.Nodup) (hy : X.N[i]? = some y) (hyl : X.env.scope.names.lookup y = some .local)
    (hsw : swapsWith (.ListComp elt [⟨tg, iter, ifs, 0⟩, ⟨tg1, iter1, ifs1, 0⟩] scope pos) (some (.Name y py)) spos.line X.env = pure true) (hi : PI X tg iter (rdI X.K fi)) (ok : BlkOk X.N X.env.scope scope own) (hv : ∀ i ∈ vs1, i ∈ own.map (·.2)) (hS : ∀ i ∈ S, i ∈ own.map (·.2)) (hS1 : ∀ i ∈ S1, i ∈ vs1)
    (hg : Blk X scope fun Y => PG Y tg (rdG X.K g S)) (ht : Blk X scope fun Y => PTs Y ifs (rdT X.K ft)) (hi1 : Blk X scope fun Y => PI Y tg1 iter1 (rdI X.K fi1)) (hg1 : Blk X scope fun Y => PG Y tg1 (rdG X.K g1 S1)) (ht1 : Blk X scope fun Y => PTs Y ifs1 tt1) (he : Blk X scope fun Y => PE Y elt te)
    (hs : ∀ x, foldedSetIterable iter X.env x = pure x) (hs1 : ∀ env x, foldedSetIterable iter1 env x = pure x) :
    PS X (.Assign [.Name y py] (.ListComp elt [⟨tg, iter, ifs, 0⟩, ⟨tg1, iter1, ifs1, 0⟩] scope pos) spos) (rdS X.K (sSet i (eLc fi g (bd2 ft fi1 g1 fb vs1) (own.map (·.2))))) := by
  refine ps_mono (ps_setLc2 hc hN hy hyl hsw hi ok hv hg ht hi1 hg1 ht1 he hs hs1) ?_
  rintro E σ H ⟨m, h, es, κ, w, q, p⟩
  refine lc2_mono hb hS hS1 σ H _ ⟨m, h, es, _, w, q, fun v m1 h1 H1 d e1 w1 r1 q1 => p.nx m1 h1 H1 _ _ e1 (w1.set i r1) q1⟩
end
end Pv
set_option Elab.async false
set_option linter.all false
set_option maxRecDepth 100000
set_option maxHeartbeats 4000000
/-! Defs and calls. -/
noncomputable section
namespace Pv
open PySem PySem.Spec PyProof.Rows L2 RZ

/-- what came since is dropped -/
def trimK (eh : List (Nat × LO)) (n0 : Nat) (k : List (Nat × LO) → Bool) : Bool := @List.rec (Nat × LO) (fun _ => Bool) (k []) (fun p r ih => @Prod.rec _ _ (fun _ => Bool) (fun i o => @Bool.rec (fun _ => Bool) (k ((i, o) :: r)) ih (Nat.ble n0 i)) p) eh
theorem trimK_true {n0 : Nat} {k : List (Nat × LO) → Bool} : ∀ {eh : List (Nat × LO)}, trimK eh n0 k = true → ∃ r q, k r = true ∧ eh = q ++ r ∧ (∀ p ∈ q, n0 ≤ p.1) ∧ (r = [] ∨ ∃ p t, r = p :: t ∧ p.1 < n0)
  | [], q => ⟨[], [], q, rfl, fun p z => (nomatch z), .inl rfl⟩
  | (i, o) :: r, q => by
    have q' : @Bool.rec (fun _ => Bool) (k ((i, o) :: r)) (trimK r n0 k) (Nat.ble n0 i) = true := q
    cases e : Nat.ble n0 i with
    | false =>
      rw [e] at q'
      exact ⟨_, [], q', rfl, fun p z => (nomatch z), .inr ⟨_, _, rfl, Nat.lt_of_not_le fun z => by rw [Nat.ble_eq_true_of_le z] at e; cases e⟩⟩
    | true =>
      rw [e] at q'
      have le : n0 ≤ i := Nat.le_of_ble_eq_true e
      obtain ⟨r', pre, q2, f3, f4, f5⟩ := trimK_true (eh := r) q'
      refine ⟨r', (i, o) :: pre, q2, by rw [f3]; rfl, fun p hp => ?_, f5⟩
      rcases List.mem_cons.mp hp with z | z
      · rw [z]; exact le
      · exact f4 p z
/-- all are without lists -/
def pureA (ds : List D) (yes no : Bool) : Bool := depA ds 0 (fun _ => yes) no
/-- the end of a def: the heap is cut down to what was, with the list that is returned -/
def retT (n0 : Nat) (k : KD) (d : D) (h : Hv) : Bool := @Hv.rec (fun _ => Bool) (fun n m => dc d (fun i => trimK m n0 fun m => k (.nat i) ⟨n, m⟩) (fun i => trimK m n0 fun m => k (.neg i) ⟨n, m⟩) (fun p ds => trimK m n0 fun m => k (.tup p ds) ⟨n, m⟩) (fun ds => k (.tpr ds) ⟨n, m⟩)
  (fun j => @List.rec (Nat × LO) (fun _ => Bool) (k (.ref j) ⟨n, m⟩) (fun _ _ _ => bsel (Nat.blt j n0) (trimK m n0 fun m => k (.ref j) ⟨n, m⟩) (look m j fun o => @LO.rec (fun _ => Bool) (fun ds => pureA ds (trimK m n0 fun m => k (.ref j) ⟨n, (j, .lst ds) :: m⟩) (k (.ref j) ⟨n, m⟩)) (fun _ _ => k (.ref j) ⟨n, m⟩) (k (.ref j) ⟨n, m⟩) o)) m)
  (fun a => trimK m n0 fun m => k (.oth a) ⟨n, m⟩)) h
/-- a def: U the slots behind the parameters -/
def mkF (U : List D) (b : MS) : MF := fun ds h k => @Hv.rec (fun _ => Bool) (fun n0 m => b (catL ds U) ⟨n0, m⟩ ⟨fun _ h => retT n0 k (.oth .non) h, retT n0 k, fun _ _ => false, fun _ _ => false⟩) h
def unks (n : Nat) : List D := List.replicate n unk

section
variable {X : Cx} {K : PySem.W.Frag} {m m' m1 m2 : Nat → Addr} {h h' h1 h2 : Hv} {H H' H1 H2 : Hp} {es es' es0 : List D} {σ σ' σ0 : L2.St} {v : V} {d : D} {k : KD} {Q : VK} {e a b : Expr} {pos : Pos} {j n : Nat} {κ : KS} {E : Ends}
/-- what follows a call -/
def PoR (K : PySem.W.Frag) (m : Nat → Addr) (h : Hv) (H : Hp) (k : KD) (Q : VK) : Prop := ∀ v m' h' H' d, Ext m h H m' h' H' → HS K m' h' H' → RD K m' H' h'.n v d → k d h' = true → Q v H'
def spC (K : PySem.W.Frag) (L : Nat) (c : MF) : Sp := fun vs H Q _ => vs.length = L ∧ ∃ m h ds k, HS K m h H ∧ RDs K m H h.n vs ds ∧ c ds h k = true ∧ PoR K m h H k Q

theorem lk_skip {j : Nat} : ∀ {q r : List (Nat × LO)}, (∀ p ∈ q, p.1 ≠ j) → lk (q ++ r) j = lk r j
  | [], _, _ => rfl
  | (i, o) :: q, r, h => by
    show (if i = j then some o else lk (q ++ r) j) = _
    rw [if_neg (h (i, o) List.mem_cons_self)]
    exact lk_skip fun p hp => h p (List.mem_cons_of_mem _ hp)
theorem lk_mem {j : Nat} {o : LO} : ∀ {r : List (Nat × LO)}, lk r j = some o → j ∈ r.map Prod.fst
  | [], z => nomatch z
  | (i, u) :: r, z => by
    have z' : (if i = j then some u else lk r j) = some o := z
    by_cases e : i = j
    · exact List.mem_cons.mpr (.inl e.symm)
    · rw [if_neg e] at z'
      exact List.mem_cons.mpr (.inr (lk_mem z'))
/-- what is left of the heap -/
structure Cut (n0 : Nat) (eh r : List (Nat × LO)) : Prop where
  sub : ∀ j o, lk r j = some o → lk eh j = some o
  low : ∀ j, j < n0 → lk r j = lk eh j
  srt : (r.map Prod.fst).Pairwise (· > ·)
  lt : ∀ j ∈ r.map Prod.fst, j < n0
theorem cut_of {n0 : Nat} {eh q r : List (Nat × LO)} (s : (eh.map Prod.fst).Pairwise (· > ·)) (e : eh = q ++ r) (hq : ∀ p ∈ q, n0 ≤ p.1) (hr : r = [] ∨ ∃ p t, r = p :: t ∧ p.1 < n0) : Cut n0 eh r := by
  subst e
  rw [List.map_append, List.pairwise_append] at s
  obtain ⟨_, s2, s3⟩ := s
  refine ⟨fun j o h => ?_, fun j hj => ?_, s2, fun j hj => ?_⟩
  · rw [lk_skip fun p hp => Nat.ne_of_gt (s3 p.1 (List.mem_map_of_mem hp) j (lk_mem h))]
    exact h
  · exact (lk_skip fun p hp => Nat.ne_of_gt (Nat.lt_of_lt_of_le hj (hq p hp))).symm
  · rcases hr with rfl | ⟨p, t, rfl, l⟩
    · cases hj
    · rcases List.mem_cons.mp hj with z | z
      · rw [z]; exact l
      · exact Nat.lt_trans ((List.pairwise_cons.mp s2).1 j z) l
theorem HS.cut {n0 : Nat} {r : List (Nat × LO)} (w : HS K m h H) (c : Cut n0 h.m r) : HS K m ⟨h.n, r⟩ H := by
  have go : ∀ i, live r i → live h.m i := fun i q => by
    unfold live at q ⊢
    cases e : lk r i with
    | none => rw [e] at q; cases q
    | some o => rw [c.sub i o e]; rfl
  exact ⟨fun j o q => w.obj j o (c.sub j o q), fun i j q1 q2 z => w.inj i j (go i q1) (go j q2) z, c.srt⟩
variable {m0 : Nat → Addr} {h0 : Hv} {H0 : Hp}
theorem Ext.cut {r : List (Nat × LO)} (e : Ext m0 h0 H0 m h H) (w0 : HS K m0 h0 H0) (hs : ∀ j, Pv.live r j → Pv.live h.m j) (lo : ∀ j, j < h0.n → lk r j = lk h.m j) : Ext m0 h0 H0 m ⟨h.n, r⟩ H := by
  refine ⟨e.le, e.agr, fun a o q z => ?_, fun j q => ?_⟩
  · obtain ⟨q1, q2⟩ := e.keep a o q z
    exact ⟨q1, fun j l => q2 j (hs j l)⟩
  · have l := e.live j q
    unfold Pv.live at q l ⊢
    cases y : lk h0.m j with
    | none => rw [y] at q; cases q
    | some u =>
      show (lk r j).isSome = true
      rw [lo j (w0.obj j u y).1]
      exact l
theorem trim_ok (w0 : HS K m0 h0 H0) (p : PoR K m0 h0 H0 k Q) (e : Ext m0 h0 H0 m h H) (w : HS K m h H) (r : RD K m H h.n v d) (q : trimK h.m h0.n (fun m => k d ⟨h.n, m⟩) = true) : Q v H := by
  obtain ⟨r', pre, q2, f3, f4, f5⟩ := trimK_true q
  have c := cut_of w.srt f3 f4 f5
  refine p v m ⟨h.n, r'⟩ H d (e.cut w0 (fun j l => ?_) c.low) (w.cut c) r q2
  unfold live at l ⊢
  cases y : lk r' j with
  | none => rw [y] at l; cases l
  | some u => rw [c.sub j u y]; rfl
theorem pureA_true {ds : List D} {yes no : Bool} (q : pureA ds yes no = true) : yes = true ∨ no = true := by
  rcases depA_true q with y | ⟨p, y, _⟩
  · exact .inr y
  · exact .inl y
theorem retT_ok (w0 : HS K m0 h0 H0) (p : PoR K m0 h0 H0 k Q) (e : Ext m0 h0 H0 m h H) (w : HS K m h H) (r : RD K m H h.n v d) (q : retT h0.n k d h = true) : Q v H := by
  obtain ⟨n, mm⟩ := h
  cases d with
  | nat i => exact trim_ok w0 p e w r q
  | neg i => exact trim_ok w0 p e w r q
  | tup pp ds => exact trim_ok w0 p e w r q
  | oth a => exact trim_ok w0 p e w r q
  | tpr ds => exact p v m _ H _ e w r q
  | ref j =>
    have all : k (.ref j) ⟨n, mm⟩ = true → Q v H := fun q => p v m _ H _ e w r q
    cases mm with
    | nil => exact all q
    | cons p0 mm =>
      have q' : bsel (Nat.blt j h0.n) (trimK (p0 :: mm) h0.n fun m => k (.ref j) ⟨n, m⟩) (look (p0 :: mm) j fun o => @LO.rec (fun _ => Bool) (fun ds => pureA ds (trimK (p0 :: mm) h0.n fun m => k (.ref j) ⟨n, (j, .lst ds) :: m⟩) (k (.ref j) ⟨n, p0 :: mm⟩)) (fun _ _ => k (.ref j) ⟨n, p0 :: mm⟩) (k (.ref j) ⟨n, p0 :: mm⟩) o) = true := q
      rcases bsel_true q' with ⟨_, q2⟩ | ⟨hj, q2⟩
      · exact trim_ok w0 p e w r q2
      · obtain ⟨o, eo, q3⟩ := look_true q2
        cases o with
        | dct ks vs => exact all q3
        | tin => exact all q3
        | lst ds =>
          rcases pureA_true q3 with q4 | q4
          · obtain ⟨r', pre, q5, f3, f4, f5⟩ := trimK_true q4
            have c := cut_of w.srt f3 f4 f5
            have nj : ¬ j < h0.n := fun z => by rw [show Nat.blt j h0.n = true from Nat.ble_eq_true_of_le z] at hj; cases hj
            have lkc : ∀ i, lk ((j, LO.lst ds) :: r') i = if j = i then some (.lst ds) else lk r' i := fun i => rfl
            have sub : ∀ i u, lk ((j, LO.lst ds) :: r') i = some u → lk (p0 :: mm) i = some u := fun i u z => by
              rw [lkc] at z
              by_cases ei : j = i
              · rw [if_pos ei] at z; rw [← ei, ← z]; exact eo
              · rw [if_neg ei] at z; exact c.sub i u z
            have lv : ∀ i, live ((j, LO.lst ds) :: r') i → live (p0 :: mm) i := fun i l => by
              unfold live at l ⊢
              cases y : lk ((j, LO.lst ds) :: r') i with
              | none => rw [y] at l; cases l
              | some u => rw [sub i u y]; rfl
            refine p v m ⟨n, (j, .lst ds) :: r'⟩ H _ (e.cut w0 lv fun i hi => ?_) ⟨fun i u z => w.obj i u (sub i u z), fun a b z1 z2 y => w.inj a b (lv a z1) (lv b z2) y, List.pairwise_cons.mpr ⟨fun i z => ?_, c.srt⟩⟩ r q5
            · rw [lkc, if_neg (by omega)]
              exact c.low i hi
            · have := c.lt i z
              show i < j
              omega
          · exact all q4

/-! ### the def's entry -/
theorem sl_start {U : List D} (hU : ∀ i, gE U i = unk) : ∀ {vs : List V} {ds : List D}, RDs K m H n vs ds → Sl K m H n (catL ds U) (vs.map some ++ List.replicate U.length none)
  | _, _, .nil => ⟨by show U.length = _; simp, fun i => .inl (hU i)⟩
  | _, _, .cons (v := v) (d := d) r s => by
    obtain ⟨l, f⟩ := sl_start hU s
    refine ⟨?_, fun i => ?_⟩
    · show (catL _ U).length + 1 = _
      rw [l]
      rfl
    · cases i with
      | zero => exact .inr ⟨v, rfl, r⟩
      | succ i => exact f i
theorem gE_unks : ∀ (nl i : Nat), gE (unks nl) i = unk
  | 0, _ => rfl
  | nl + 1, 0 => rfl
  | nl + 1, i + 1 => gE_unks nl i
theorem fn_ok {P : Program} {w : World} {mg : Str → Option Value} {base : Heap} {x qual : Str} {params : Arguments} {body : List Stmt} {scope : Scope} {f : Addr} {fd : FuncData} {N ps : List Str} {kk nl L : Nat} {c : MS}
    (F : FunD K x qual params body scope [] [] f fd) (S : FnScope N ps scope) (hL : ps.length = L) (hl : N.length = L + nl)
    (hb : ∀ (cdv : Value) (A : Around) (outer : List Env) (s : Shared) (H : Hp) (E : XK), Room kk (A.deeper (envOfC qual scope s.heap.objs.size f cdv)) → PSs (cxOf CX0 P w K mg base N qual scope f cdv A outer s H E).nox body (rdS K c)) :
    FnOk P w K mg base CX0 (kk + 1) f fd ps (spC K L (mkF (unks nl) c)) := by
  refine F.ok S (fun vs H Q E q => by rw [hL]; exact q.1) fun cdv A outer s H vs Q E hr q => ⟨rdS K c, (hb cdv A outer s H E hr).nox, ?_⟩
  obtain ⟨hv, m, h, ds, k, hs, r, q, p⟩ := q
  obtain ⟨n0, mm⟩ := h
  refine ⟨m, ⟨n0, mm⟩, catL ds (unks nl), _, ⟨hs, ?_⟩, (show c (catL ds (unks nl)) ⟨n0, mm⟩ _ = true from q), ⟨?_, ?_, ?_, ?_⟩⟩
  · have z := sl_start (gE_unks nl) r
    have e : L2.start N vs = vs.map some ++ List.replicate (unks nl).length none := by
      unfold L2.start unks
      rw [List.length_replicate, hv, hl, Nat.add_sub_cancel_left]
    rw [e]
    exact z
  · exact fun m' h' H' es' σ' ex w' q' => retT_ok hs p ex w'.hs .non q'
  · exact fun m' h' H' es' σ' ex w' q' => nomatch q'
  · exact fun m' h' H' es' σ' ex w' q' => nomatch q'
  · exact fun v m' h' H' d ex w' r' q' => retT_ok hs p ex w' r' q'

/-! ### the call -/
def eCall (c : MF) (a : MEs) : ME := fun es h k => a es h fun ds h => c ds h k
theorem call_mono {c : MF} {L : Nat} {fa : MEs} : ∀ σ H Q, rdE K (eCall c fa) σ H Q → tCall (spC K L c) [] E0 (rdA K L fa) σ H Q := by
  rintro σ H Q ⟨m, h, es, k, w, q, p⟩
  refine ⟨m, h, es, _, w, q, fun vs m1 h1 H1 ds e1 w1 r1 l q1 => ?_⟩
  show spC K L c (vs ++ []) H1 Q E0
  rw [List.append_nil]
  exact ⟨l, m1, h1, ds, k, w1.hs, r1, q1, fun v m2 h2 H2 d e2 w2 r2 q2 => p v m2 h2 H2 d (e1.trans e2) (w1.mono e2 w2) r2 q2⟩
/-- a def that may be called by its name -/
structure Cl (P : Program) (w : World) (K : PySem.W.Frag) (mg : Str → Option Value) (base : Heap) (kc : Nat) (x : Str) (L : Nat) (c : MF) : Prop where
  ex : ∃ (f : Addr) (fd : FuncData) (ps : List Str), FnOk P w K mg base CX0 kc f fd ps (spC K L c) ∧ mg x = some (.ref f) ∧ PySem.W.keepIn K (.ref f) = true ∧ Binds K fd ps []
theorem ok_call {c : MF} {L kc kj : Nat} {fa : MEs} {x : Str} {es : List Expr} {p : Pos} (C : Cl X.prog X.w X.K X.mg X.base kc x L c) (hr : Room kj X.A) (hk : kc ≤ kj) (hg : Gl X x) (ha : PA X (e :: es) (rdA X.K L fa))
    (hdb : (x == ("__debug__" : Str)) = false) (he : starEach (e :: es) X.env = (false, eval e X.env) :: starEach es X.env) (hpl : (backTo pos (starEach es X.env)).any (·.1) = false) :
    PE X (.Call (.Name x p) (e :: es) [] pos) (rdE X.K (eCall c fa)) := by
  obtain ⟨f, fd, ps, F, hm, kp, b⟩ := C.ex
  exact pe_mono (pe_call F (hr.mono hk) hg hm kp b .nil pass0 ha hdb he hpl) call_mono
theorem ok_call0 {c : MF} {kc kj : Nat} {x : Str} {p : Pos} (C : Cl X.prog X.w X.K X.mg X.base kc x 0 c) (hr : Room kj X.A) (hk : kc ≤ kj) (hg : Gl X x) (hdb : (x == ("__debug__" : Str)) = false) :
    PE X (.Call (.Name x p) [] [] pos) (rdE X.K (eCall c aNil)) := by
  obtain ⟨f, fd, ps, F, hm, kp, b⟩ := C.ex
  refine pe_mono (pe_call0 F (hr.mono hk) hg hm kp b .nil pass0 hdb) ?_
  rintro σ H Q ⟨m, h, es, k, w, q, p⟩
  exact ⟨rfl, m, h, [], k, w.hs, .nil, q, fun v m2 h2 H2 d e2 w2 r2 q2 => p v m2 h2 H2 d e2 (w.mono e2 w2) r2 q2⟩
end
end Pv
set_option Elab.async false
set_option linter.all false
set_option maxRecDepth 100000
set_option maxHeartbeats 4000000
/-! Dicts with tuples for keys, at the layer's level: d[k], d.get(k), k in d, d[k] = v, {}, dict(pairs), list(d). -/
noncomputable section
namespace Pv
open PySem PySem.Spec PyProof.Rows L2

/-! ### keys -/
mutual
inductive NV (K : PySem.W.Frag) (H : Hp) : NestedKey → V → Prop
  | non : NV K H .none .non
  | num (i : Int) : NV K H (.num i) (.int i)
  | bl (b : Bool) : NV K H (.num (if b = true then 1 else 0)) (.bl b)
  | tup {a : Addr} {vs : List V} {ks : List NestedKey} : SqT K H a vs → NVs K H ks vs → NV K H (.tup ks) (.ref a)
inductive NVs (K : PySem.W.Frag) (H : Hp) : List NestedKey → List V → Prop
  | nil : NVs K H [] []
  | cons {k : NestedKey} {v : V} {ks : List NestedKey} {vs : List V} : NV K H k v → NVs K H ks vs → NVs K H (k :: ks) (v :: vs)
end
section
variable {X : Cx} {pins : List (Addr × Obj)} {σ : L2.St} {H H' : Hp} {s : Shared} {K : PySem.W.Frag} {m : Nat → Addr} {h : Hv} {n : Nat} {w w' : World} {a : Addr}
mutual
theorem NV.is (I : Inv X pins σ H s) : ∀ {k : NestedKey} {v : V} {u : Value}, NV X.K H k v → RelV v u → NestedIs s.heap k u
  | _, _, u, .non, r => by
    obtain rfl : u = Value.none := r
    exact .none
  | _, _, u, .num i, r => by
    obtain ⟨t, rfl⟩ := r
    exact .int i t
  | _, _, u, .bl b, r => by
    obtain rfl : u = Value.bool b := r
    exact .bool rfl
  | _, _, u, .tup sq ks, r => by
    obtain rfl : u = Value.ref _ := r
    obtain ⟨its, rv, pt, _⟩ := I.tuple sq
    obtain ⟨o, e, c, nn, d⟩ := pt
    exact .tup e c d (NVs.is I ks (by simpa using rv))
theorem NVs.is (I : Inv X pins σ H s) : ∀ {ks : List NestedKey} {vs : List V} {us : List Value}, NVs X.K H ks vs → Vals vs us → NestedAll s.heap ks us
  | _, _, _, .nil, r => by cases r; exact .nil
  | _, _, _, .cons a b, r => by
    cases r with
    | cons r1 r2 => exact .cons (NV.is I a r1) (NVs.is I b r2)
end
mutual
theorem NV.hash : ∀ {k : NestedKey} {v : V}, NV K H k v → k.hash w = k.hash w'
  | _, _, .non => rfl
  | _, _, .num i => rfl
  | _, _, .bl b => rfl
  | _, _, .tup sq ks => by rw [NestedKey.hash, NestedKey.hash, NVs.hash ks]
theorem NVs.hash : ∀ {ks : List NestedKey} {vs : List V}, NVs K H ks vs → NestedKey.hashes w ks = NestedKey.hashes w' ks
  | _, _, .nil => rfl
  | _, _, .cons a b => by rw [NestedKey.hashes, NestedKey.hashes, NV.hash a, NVs.hash b]
end
mutual
theorem RD.nv : ∀ {v : V} {d : D} {p : Nat}, RD K m H n v d → Kd d p → NV K H (nk d) v ∧ (nk d).depth ≤ p
  | _, _, _, .nat i, _ => ⟨by rw [nk]; exact .num _, by rw [nk, NestedKey.depth]; exact Nat.zero_le _⟩
  | _, _, _, .neg i, _ => ⟨by rw [nk]; exact .num _, by rw [nk, NestedKey.depth]; exact Nat.zero_le _⟩
  | _, _, _, .tup s r z q, c => by
    cases c with
    | tup c =>
      obtain ⟨h1, h2⟩ := RDs.nv r c
      refine ⟨by rw [nk]; exact .tup s h1, ?_⟩
      rw [nk, NestedKey.depth]
      omega
  | _, _, _, .tpr s r, c => by cases c
  | _, _, _, .ref j l, c => by cases c
  | _, _, _, .non, _ => by
    have e : nk (.oth .non) = .none := by simp [nk]
    rw [e]
    exact ⟨.non, by rw [NestedKey.depth]; exact Nat.zero_le _⟩
  | _, _, _, .bl b, _ => ⟨by rw [nk]; exact .bl b, by rw [nk, NestedKey.depth]; exact Nat.zero_le _⟩
  | _, _, _, .str x l, c => by cases c
theorem RDs.nv : ∀ {vs : List V} {ds : List D} {p : Nat}, RDs K m H n vs ds → KdS ds p → NVs K H (nks ds) vs ∧ NestedKey.depthAll (nks ds) ≤ p
  | _, _, _, .nil, _ => ⟨by rw [nks]; exact .nil, by rw [nks, NestedKey.depthAll]; exact Nat.zero_le _⟩
  | _, _, _, .cons a b, c => by
    cases c with
    | cons c d =>
      obtain ⟨h1, h2⟩ := RD.nv a c
      obtain ⟨h3, h4⟩ := RDs.nv b d
      refine ⟨by rw [nks]; exact .cons h1 h3, ?_⟩
      rw [nks, NestedKey.depthAll]
      omega
end

/-! ### the dict in the layer's heap -/
structure Dc (K : PySem.W.Frag) (H : Hp) (a : Addr) (w : World) (xs : KX) (us : List V) : Prop where
  here : H a = some (dctO a (xs.map (entK w)))
  sys : (a == sysModules) = false
  len : xs.length ≤ sizeLine
  nd : (xs.map (·.1)).Nodup
  keys : ∀ x ∈ xs, NV K H x.1 (.ref x.2.1) ∧ x.1.depth ≤ 8
  vals : Vals us (xs.map (·.2.2))
theorem dct_ok {P : Program} {wd : World} {hp : Heap} {es : List DictEntry} (e : ∃ o ep, hp.get? a = some o ∧ o.ExactDict ∧ o.data = .dict es.toArray ep) : ObjOk P wd H hp a (dctO a es) := by
  refine ⟨e, ?_, fun h1 h2 q k => ?_⟩
  · obtain ⟨o, _, e, _⟩ := e
    exact ⟨o, e⟩
  · obtain ⟨o, ep, e, r⟩ := q
    exact ⟨o, ep, k o e, r⟩
theorem Dc.raw {xs : KX} {us : List V} (I : Inv X pins σ H s) (d : Dc X.K H a w xs us) : ∃ o ep, s.heap.get? a = some o ∧ o.ExactDict ∧ o.data = .dict (xs.map (entK w)).toArray ep := (I.hok a _ d.here).1
theorem Dc.ent {xs : KX} {us : List V} (d : Dc K H a w xs us) {P : Program} : xs.map (entK w) = xs.map (entryOfKey (nestedKind P w')) := List.map_congr_left fun x hx => by
  have z : x.1.hash w = x.1.hash w' := (d.keys x hx).1.hash
  show DictEntry.mk (x.1.hash w) _ _ = DictEntry.mk (x.1.hash w') _ _
  rw [z]
theorem Dc.of {xs : KX} {us : List V} (I : Inv X pins σ H s) (d : Dc X.K H a w xs us) : s.heap.DictOfH (nestedKind X.prog X.w) a xs := by
  obtain ⟨o, ep, e, x, r⟩ := d.raw I
  refine ⟨o, _, ep, e, x, r, ?_, fun y hy => ⟨(d.keys y hy).1.is I rfl, (d.keys y hy).2⟩, d.nd⟩
  rw [← d.ent (P := X.prog) (w' := X.w)]
theorem Dc.keyed {xs : KX} {us : List V} (I : Inv X pins σ H s) (d : Dc X.K H a w xs us) : s.heap.DictKeyed (nestedKind X.prog X.w) a (pairsH xs) := ⟨xs, d.of I, rfl⟩
theorem Dc.dict {xs : KX} {us : List V} (I : Inv X pins σ H s) (d : Dc X.K H a w xs us) : s.TypeIs (.ref a) "dict" ∧ ∀ b, Value.ref a = .ref b → ∃ ob, s.heap.get? b = some ob ∧ ob.dict = none := by
  obtain ⟨o, ep, e, x, _⟩ := d.raw I
  exact ⟨⟨o, e, x.1⟩, fun b q => by cases q; exact ⟨o, e, x.2.1⟩⟩
/-- the value at a key -/
def vAt (xs : KX) (us : List V) (k : NestedKey) : Option V := ((xs.map (·.1)).zip us).lookup k
theorem vAt_rel {k : NestedKey} : ∀ {xs : KX} {us : List V}, Vals us (xs.map (·.2.2)) → RelO (vAt xs us k) (valueAt (pairsH xs) k)
  | [], us, r => by
    cases r
    trivial
  | x :: xs, us, r => by
    cases r with
    | cons r1 r2 =>
      rename_i v vs
      have ih := vAt_rel (k := k) r2
      unfold vAt at ih ⊢
      show RelO (List.lookup k ((x.1, v) :: ((xs.map (·.1)).zip vs))) (valueAt ((x.1, x.2.2) :: pairsH xs) k)
      rw [List.lookup_cons]
      by_cases e : x.1 = k
      · subst e
        rw [show (x.1 == x.1) = true from by simp]
        simp only [valueAt, List.find?_cons, decide_eq_true_eq, decide_true, Option.map_some]
        exact r1
      · rw [show (k == x.1) = false from by simpa using fun z => e z.symm]
        have e2 : valueAt ((x.1, x.2.2) :: pairsH xs) k = valueAt (pairsH xs) k := by
          simp [valueAt, List.find?_cons, e]
        rw [e2]
        exact ih
end
end Pv
set_option Elab.async false
set_option linter.all false
set_option maxRecDepth 100000
set_option maxHeartbeats 4000000
/-! What one does with dicts (tuples for keys), by values. -/
noncomputable section
namespace Pv
open PySem PySem.Spec PyProof.Rows L2
section
variable {X : Cx} {pins : List (Addr × Obj)} {σ : L2.St} {H H' : Hp} {s : Shared} {K : PySem.W.Frag} {m : Nat → Addr} {h : Hv} {n : Nat} {w w' : World} {a : Addr}
/-- a dict and a key -/
structure DK (K : PySem.W.Frag) (H : Hp) (x y : V) (a b : Addr) (w : World) (xs : KX) (us : List V) (k : NestedKey) : Prop where
  ex : x = .ref a
  ey : y = .ref b
  dc : Dc K H a w xs us
  kv : NV K H k (.ref b)
  kd : k.depth ≤ 8
theorem kindRoom {A : Around} (hu : A.units + 65 < cLine) : (nestedKind X.prog X.w).room A.in1 := by
  show A.units + 1 + 8 < cLine
  omega
theorem kindRoom2 {A : Around} (hu : A.units + 65 < cLine) : (nestedKind X.prog X.w).room A.in1.in1 := by
  show A.units + 1 + 1 + 8 < cLine
  omega
def rDix (K : PySem.W.Frag) : R2 := fun x y H Q => ∃ a b w xs us k v, DK K H x y a b w xs us k ∧ vAt xs us k = some v ∧ Q v H
theorem ix_dct (hu : X.A.units + 65 < cLine) : IxR X (rDix X.K) := by
  intro value slice pins s σ H x y v u Q I rx ry h hs
  obtain ⟨a, b, wd, xs, us, k, z, ⟨rfl, rfl, dc, kv, kd⟩, ev, q⟩ := h
  cases rx
  cases ry
  have rl := vAt_rel (k := k) dc.vals
  rw [ev] at rl
  cases ez : valueAt (pairsH xs) k with
  | none => rw [ez] at rl; exact rl.elim
  | some u2 =>
    rw [ez] at rl
    exact subscriptTail_builtinR (x := u2) (dc.dict I).1 PySem.F.slot_dict_getitem.lookup (getItem_keyed (kindRoom hu) ⟨kv.is I rfl, kd⟩ (dc.keyed I) ez ⟨rfl, z, H, I.tok _, rl, q⟩) hs
def rDin (K : PySem.W.Frag) : R2 := fun y x H Q => ∃ a b w xs us k, DK K H x y a b w xs us k ∧ Q (.bl (vAt xs us k).isSome) H
def rDnin (K : PySem.W.Frag) : R2 := fun y x H Q => ∃ a b w xs us k, DK K H x y a b w xs us k ∧ Q (.bl (!(vAt xs us k).isSome)) H
theorem isSome_rel {o : Option V} {u : Option Value} (r : RelO o u) : u.isSome = o.isSome := by
  cases o <;> cases u <;> first | rfl | exact r.elim
theorem op_dIn (hu : X.A.units + 65 < cLine) : OpR X (compareOp .In) (rDin X.K) := by
  intro pins s σ H y x v u Q I ry rx h
  obtain ⟨a, b, wd, xs, us, k, ⟨rfl, rfl, dc, kv, kd⟩, q⟩ := h
  cases rx
  cases ry
  refine in_keyed (kindRoom hu) ⟨kv.is I rfl, kd⟩ dc.sys (dc.keyed I) ⟨_, H, I.tok _, ?_, q⟩
  show Value.bool _ = Value.bool _
  rw [isSome_rel (vAt_rel dc.vals)]
theorem op_dNin (hu : X.A.units + 65 < cLine) : OpR X (compareOp .NotIn) (rDnin X.K) := by
  intro pins s σ H y x v u Q I ry rx h
  obtain ⟨a, b, wd, xs, us, k, ⟨rfl, rfl, dc, kv, kd⟩, q⟩ := h
  cases rx
  cases ry
  refine notIn_keyed (kindRoom hu) ⟨kv.is I rfl, kd⟩ dc.sys (dc.keyed I) ⟨_, H, I.tok _, ?_, q⟩
  show Value.bool _ = Value.bool _
  rw [isSome_rel (vAt_rel dc.vals)]
/-- d.get(k) -/
def tDg1 (K : PySem.W.Frag) (td ty : TE) : TE := fun σ H Q => td σ H fun x H1 => ∃ a w xs us, x = .ref a ∧ Dc K H1 a w xs us ∧ ty σ H1 fun y H2 => ∃ b w xs us k, DK K H2 x y a b w xs us k ∧ Q ((vAt xs us k).getD .non) H2
theorem pe_dg1 {o e : Expr} {apos cpos : Pos} {td ty : TE} (hu : X.A.units + 65 < cLine) (ho : PE X o td) (he : PE X e ty) (mm : M1 X o "get" apos e cpos) : PE X (.Call (.Attribute o "get" apos) [e] [] cpos) (tDg1 X.K td ty) := by
  constructor
  intro pins s σ H Q I q
  refine wpAny_Call_method mm.base mm.few mm.line PySem.F.plainAttrs_dict PySem.F.slot_dict_get PySem.F.type_dict_get (thn (ho.run pins s σ H _ I q) fun uo s1 ⟨x, H1, I1, rx, a, w1, xs1, us1, ex, d1, q1⟩ => ?_)
  subst ex
  obtain rfl : uo = Value.ref a := rx
  refine ⟨(d1.dict I1).1, (d1.dict I1).2, ?_⟩
  rw [mm.trees]
  refine Calls.callWith_builtin rfl (Calls.evalArgs_plain (Calls.spliced_cons (thn (he.run pins s1 σ H1 _ I1 q1) fun uk s2 ⟨y, H2, I2, ry, b, w2, xs2, us2, k, ⟨_, ey, dc, kv, kd⟩, q2⟩ => Calls.spliced_nil ?_)))
  subst ey
  obtain rfl : uk = Value.ref b := ry
  refine get_keyed (kindRoom hu) ⟨kv.is I2 rfl, kd⟩ dc.sys (dc.keyed I2) ⟨_, H2, I2.tok _, ?_, q2⟩
  exact RelO.getD (vAt_rel dc.vals) rfl
/-- d[k] = v -/
def rDset (K : PySem.W.Frag) : TSet := fun x y v H Q => ∃ a b w xs us k, DK K H x y a b w xs us k ∧ xs.length < sizeLine ∧ ∀ u, RelV v u → Q (upd H a (dctO a ((storedH xs k b u).map (entK w))))
theorem nvs_mem {xs : KX} (hx : ∀ x ∈ xs, NV K H x.1 (.ref x.2.1) ∧ x.1.depth ≤ 8) {k : NestedKey} {b : Addr} {u : Value} (kv : NV K H k (.ref b)) (kd : k.depth ≤ 8) : ∀ x ∈ storedH xs k b u, NV K H x.1 (.ref x.2.1) ∧ x.1.depth ≤ 8 := fun x hm => by
  rcases mem_storedH_key hm with ⟨y, hy, e1, e2⟩ | ⟨e1, e2⟩
  · rw [e1, e2]; exact hx y hy
  · rw [e1, e2]; exact ⟨kv, kd⟩
theorem ent_eq {xs : KX} (hx : ∀ x ∈ xs, NV K H x.1 (.ref x.2.1) ∧ x.1.depth ≤ 8) {P : Program} : xs.map (entK w) = xs.map (entryOfKey (nestedKind P w')) := List.map_congr_left fun x hm => by
  have z : x.1.hash w = x.1.hash w' := (hx x hm).1.hash
  show DictEntry.mk (x.1.hash w) _ _ = DictEntry.mk (x.1.hash w') _ _
  rw [z]
theorem set_dct (hu : X.A.units + 65 < cLine) : PSet X (rDset X.K) := by
  intro pins s σ H x y v uo ui uv Q I rx ry rv h
  obtain ⟨a, b, wd, xs, us, k, ⟨rfl, rfl, dc, kv, kd⟩, hl, q⟩ := h
  cases rx
  cases ry
  refine wpAny_setItem_heap (hsz := dc.len) (kindRoom hu) ⟨kv.is I rfl, kd⟩ (dc.of I) fun hp hd sb => ?_
  refine ⟨_, ?_, q uv rv⟩
  obtain ⟨o, es, ep, e1, e2, e3, e4, _, _⟩ := hd
  have ee : es = ((storedH xs k b uv).map (entK wd)).toArray := by
    rw [ent_eq (nvs_mem (u := uv) dc.keys kv kd) (P := X.prog) (w' := X.w), ← e4]
  refine I.write (by rw [dc.here]; trivial) (.inl rfl) (fun c o' hc e => (sb.2 c hc).trans e) ⟨o, e1⟩ (dct_ok ⟨o, ep, e1, e2, ?_⟩)
  rw [← ee]
  exact e3
/-- {} -/
def tDnew : TE := fun _ H Q => ∀ p, H p = none → (p == sysModules) = false → Q (.ref p) (upd H p (dctO p []))
theorem pe_dnew {pos : Pos} : PE X (.Dict [] [] pos) tDnew := by
  constructor
  intro pins s σ H Q I q
  refine wpAny_Dict_empty ⟨.ref s.heap.objs.size, _, I.laid (o := dctO s.heap.objs.size []) (t' := s.toks) (fun _ _ z => Heap.get?_push_of_some _ z) (Nat.le_refl _) (dct_ok ⟨_, 0, Heap.get?_push_size _ rfl, ⟨rfl, rfl, rfl⟩, rfl⟩), rfl, q _ (I.hok.fresh (Nat.le_refl _)) ?_⟩
  exact beq_eq_false_iff_ne.mpr (Ne.symm (Nat.ne_of_lt I.big))
/-- list(d) -/
theorem call_lstD (hc : X.calm = true) : CallR X (.type "list") (fun vs H Q => ∃ a w xs us, vs = [V.ref a] ∧ Dc X.K H a w xs us ∧ ∀ p, H p = none → Q (.ref p) (upd H p (.lst (xs.map fun x => V.ref x.2.1)))) := by
  intro pins s σ H vs uu Q I r q
  obtain ⟨a, wd, xs, us, rfl, dc, q⟩ := q
  obtain ⟨u, rfl, rx⟩ := r.one
  cases rx
  obtain ⟨o, ep, e1, e2, e3⟩ := dc.raw I
  have hz : (xs.map (entK wd)).toArray.size = xs.length := by simp
  refine PySem.W.kdl_call (kdl_raw dc.sys e2 e3) (I.ok.hd hc) e1 (by rw [hz]; exact dc.len) fun hp tk acc cap kp e it => ?_
  have ea : acc.toList = xs.map fun x => Value.ref x.2.1 := by
    have hl : acc.toList.length = xs.length := by rw [Array.length_toList, it.1, hz]
    refine List.ext_getElem? fun j => ?_
    rw [List.getElem?_map]
    rcases Nat.lt_or_ge j xs.length with lt | ge
    · obtain ⟨y, ey⟩ : ∃ y, acc.toList[j]? = some y := ⟨_, List.getElem?_eq_getElem (by rw [hl]; exact lt)⟩
      obtain ⟨en, hen, hv⟩ := it.2 j y (by rw [← Array.getElem?_toList]; exact ey)
      rw [ey, hv, List.getElem?_eq_getElem lt]
      have : (xs.map (entK wd))[j]? = some en := by simpa using hen
      rw [List.getElem?_map, List.getElem?_eq_getElem lt] at this
      have e5 : entK wd xs[j] = en := Option.some.inj this
      rw [← e5]
      rfl
    · rw [List.getElem?_eq_none (by rw [hl]; exact ge), List.getElem?_eq_none ge]
      rfl
  have rv : Vals (xs.map fun x => V.ref x.2.1) acc.toList := by
    rw [ea]
    exact vals_map fun x => rfl
  refine ⟨.ref s.heap.objs.size, _, I.laid (t' := tk) (o := .lst (xs.map fun x => V.ref x.2.1)) kp (Nat.le_refl _) ?_, rfl, q _ (I.hok.fresh (Nat.le_refl _))⟩
  exact ⟨by rw [List.length_map]; exact dc.len, acc.toList, cap, rv, by rw [Array.toArray_toList]; exact e⟩
where
  vals_map {xs : KX} (h : ∀ x : NestedKey × Addr × Value, RelV (V.ref x.2.1) (Value.ref x.2.1)) : Vals (xs.map fun x => V.ref x.2.1) (xs.map fun x => Value.ref x.2.1) := by
    induction xs with
    | nil => exact .nil
    | cons x xs ih => exact .cons (h x) ih
end
end Pv
set_option Elab.async false
set_option linter.all false
set_option maxRecDepth 100000
set_option maxHeartbeats 4000000
/-! Dicts with tuples for keys, in the evaluator. -/
noncomputable section
namespace Pv
open PySem PySem.Spec PyProof.Rows L2

/-! ### equality of keys -/
theorem num_iff {i j : Int} : (NestedKey.num i = NestedKey.num j) ↔ i = j := ⟨fun e => by injection e, fun e => by rw [e]⟩
theorem nkN (i : Nat) : nk (.nat i) = .num (Int.ofNat i) := by simp [nk]
theorem nkG (i : Nat) : nk (.neg i) = .num (Int.negSucc i) := by simp [nk]
theorem nkO : nk (.oth .non) = .none := by simp [nk]
theorem nkB (b : Bool) : nk (.oth (.bl b)) = .num (if b = true then 1 else 0) := by simp [nk]
theorem nkT (p : Nat) (ds : List D) : nk (.tup p ds) = .tup (nks ds) := by simp [nk]
theorem dn (i j : Int) : decide (NestedKey.num i = NestedKey.num j) = decide (i = j) := dec_congr num_iff
theorem d_no {a b : NestedKey} (h : a ≠ b) : false = decide (a = b) := (decide_eq_false h).symm
mutual
theorem eqD_nk : ∀ {x y : D} {p q : Nat}, Kd x p → Kd y q → eqD x y = decide (nk x = nk y)
  | _, _, _, _, .nat i _, r => by
    cases r with
    | nat j _ => rw [nkN, nkN, dn]; show Nat.beq i j = _; rw [beq_dec]; exact dec_congr (by simp only [Int.ofNat_eq_natCast]; omega)
    | neg j _ => rw [nkN, nkG, dn]; exact (decide_eq_false (by simp only [Int.ofNat_eq_natCast]; omega)).symm
    | non _ => rw [nkN, nkO]; exact d_no (fun e => nomatch e)
    | bl b _ => rw [nkN, nkB, dn]; show Nat.beq (b01 b) i = _; rw [b01_eq]; exact dec_congr ⟨Eq.symm, Eq.symm⟩
    | tup _ => rw [nkN, nkT]; exact d_no (fun e => nomatch e)
  | _, _, _, _, .neg i _, r => by
    cases r with
    | nat j _ => rw [nkG, nkN, dn]; exact (decide_eq_false (by simp only [Int.ofNat_eq_natCast]; omega)).symm
    | neg j _ => rw [nkG, nkG, dn]; show Nat.beq i j = _; rw [beq_dec]; exact dec_congr (by omega)
    | non _ => rw [nkG, nkO]; exact d_no (fun e => nomatch e)
    | bl b _ => rw [nkG, nkB, dn]; exact (decide_eq_false (by cases b <;> simp <;> omega)).symm
    | tup _ => rw [nkG, nkT]; exact d_no (fun e => nomatch e)
  | _, _, _, _, .non _, r => by
    cases r with
    | nat j _ => rw [nkO, nkN]; exact d_no (fun e => nomatch e)
    | neg j _ => rw [nkO, nkG]; exact d_no (fun e => nomatch e)
    | non _ => rw [nkO]; exact (decide_eq_true rfl).symm
    | bl b _ => rw [nkO, nkB]; exact d_no (fun e => nomatch e)
    | tup _ => rw [nkO, nkT]; exact d_no (fun e => nomatch e)
  | _, _, _, _, .bl b _, r => by
    cases r with
    | nat j _ => rw [nkB, nkN, dn]; show Nat.beq (b01 b) j = _; rw [b01_eq]
    | neg j _ => rw [nkB, nkG, dn]; exact (decide_eq_false (by cases b <;> simp <;> omega)).symm
    | non _ => rw [nkB, nkO]; exact d_no (fun e => nomatch e)
    | bl c _ => rw [nkB, nkB, dn]; cases b <;> cases c <;> rfl
    | tup _ => rw [nkB, nkT]; exact d_no (fun e => nomatch e)
  | _, _, _, _, .tup c, r => by
    cases r with
    | nat j _ => rw [nkT, nkN]; exact d_no (fun e => nomatch e)
    | neg j _ => rw [nkT, nkG]; exact d_no (fun e => nomatch e)
    | non _ => rw [nkT, nkO]; exact d_no (fun e => nomatch e)
    | bl b _ => rw [nkT, nkB]; exact d_no (fun e => nomatch e)
    | tup c' =>
      rw [nkT, nkT, eqD_tup, eqL_nks c c']
      exact dec_congr ⟨fun e => by rw [e], fun e => by injection e⟩
theorem eqL_nks : ∀ {a b : List D} {p q : Nat}, KdS a p → KdS b q → eqL a b = decide (nks a = nks b)
  | _, _, _, _, .nil, r => by
    cases r with
    | nil => rfl
    | cons _ _ => rw [nks, nks]; exact (decide_eq_false (fun e => nomatch e)).symm
  | _, _, _, _, .cons a s, r => by
    cases r with
    | nil => rw [nks, nks]; exact (decide_eq_false (fun e => nomatch e)).symm
    | cons a' s' =>
      rename_i d1 ds1 d2 ds2
      rw [eqL_cc, eqD_nk a a', eqL_nks s s', nks, nks]
      by_cases e1 : nk d1 = nk d2
      · rw [decide_eq_true e1]
        exact dec_congr ⟨fun e2 => by rw [e1, e2], fun e => by injection e⟩
      · rw [decide_eq_false e1]
        exact (decide_eq_false fun e => e1 (by injection e)).symm
end
/-- is this a key? -/
def kdA (d : D) : Nat → Bool := @D.rec (fun _ => Nat → Bool) (fun _ => Nat → Bool) (fun _ _ => true) (fun _ _ => true) (fun _ _ ih p => @Nat.rec (fun _ => Bool) false (fun q _ => ih q) p) (fun _ _ _ => false) (fun _ _ => false)
  (fun a _ => @At.rec (fun _ => Bool) false true (fun _ => true) (fun _ => false) a) (fun _ => true) (fun _ _ ihx ihr p => bsel (ihx p) (ihr p) false) d
def kdL (ds : List D) (p : Nat) : Bool := kdA (.tup 0 ds) (p + 1)
mutual
theorem kdA_ok : ∀ {d : D} {p : Nat}, kdA d p = true → Kd d p
  | .nat n, p, _ => .nat n p
  | .neg n, p, _ => .neg n p
  | .tup q ds, 0, e => nomatch e
  | .tup q ds, p + 1, e => .tup (kdL_ok e)
  | .tpr ds, _, e => nomatch e
  | .ref j, _, e => nomatch e
  | .oth .unk, _, e => nomatch e
  | .oth .non, p, _ => .non p
  | .oth (.bl b), p, _ => .bl b p
  | .oth (.str x), _, e => nomatch e
theorem kdL_ok : ∀ {ds : List D} {p : Nat}, kdL ds p = true → KdS ds p
  | [], p, _ => .nil
  | d :: ds, p, e => by
    obtain ⟨e1, e2⟩ := bsel_tf (show bsel (kdA d p) (kdL ds p) false = true from e)
    exact .cons (kdA_ok e1) (kdL_ok e2)
end
/-- a key of a dict -/
def kOk (d : D) (k : Bool) : Bool := dc d nF nF (fun p ds => bsel (kdA (.tup p ds) 8) k false) lF nF aF
theorem kOk_true {d : D} {k : Bool} (q : kOk d k = true) : Kd d 8 ∧ (∃ p ds, d = .tup p ds) ∧ k = true := by
  cases d with
  | tup p ds =>
    obtain ⟨e1, e2⟩ := bsel_tf (show bsel (kdA (.tup p ds) 8) k false = true from q)
    exact ⟨kdA_ok e1, ⟨p, ds, rfl⟩, e2⟩
  | _ => cases q

/-! ### entries, one by one -/
section
variable {X : Cx} {K : PySem.W.Frag} {m m' : Nat → Addr} {h h' : Hv} {H H' : Hp} {es : List D} {σ : L2.St} {v : V} {d : D} {k : KD} {Q : VK} {e a b : Expr} {pos : Pos} {j n : Nat}
inductive KVr (K : PySem.W.Frag) (m : Nat → Addr) (H : Hp) (n : Nat) : KX → List V → List D → List D → Prop
  | nil : KVr K m H n [] [] [] []
  | cons {kk : NestedKey} {b : Addr} {u : Value} {v : V} {d dv : D} {xs : KX} {us : List V} {ks vs : List D} : RD K m H n (.ref b) d → nk d = kk → Kd d 8 → (∃ p ds, d = .tup p ds) → RD K m H n v dv → RelV v u → KVr K m H n xs us ks vs → KVr K m H n ((kk, b, u) :: xs) (v :: us) (d :: ks) (dv :: vs)
theorem KVr.of : ∀ {xs : KX} {us : List V} {ks vs : List D}, RDs K m H n (xs.map fun x => V.ref x.2.1) ks → xs.map (·.1) = nks ks → (∀ d ∈ ks, Kd d 8 ∧ ∃ p ds, d = .tup p ds) → RDs K m H n us vs → Vals us (xs.map (·.2.2)) → KVr K m H n xs us ks vs
  | [], us, ks, vs, rk, ek, kk, rv, vv => by
    cases rk
    cases vv
    cases rv
    exact .nil
  | (kx, b, u) :: xs, us, ks, vs, rk, ek, kk, rv, vv => by
    cases rk with
    | cons r1 r2 =>
      cases vv with
      | cons v1 v2 =>
        cases rv with
        | cons s1 s2 =>
          rw [nks] at ek
          injection ek with e1 e2
          obtain ⟨k1, k2⟩ := kk _ List.mem_cons_self
          exact .cons r1 e1.symm k1 k2 s1 v1 (KVr.of r2 e2 (fun d hd => kk d (List.mem_cons_of_mem _ hd)) s2 v2)
theorem KVr.to : ∀ {xs : KX} {us : List V} {ks vs : List D}, KVr K m H n xs us ks vs → RDs K m H n (xs.map fun x => V.ref x.2.1) ks ∧ xs.map (·.1) = nks ks ∧ (∀ d ∈ ks, Kd d 8 ∧ ∃ p ds, d = .tup p ds) ∧ RDs K m H n us vs ∧ Vals us (xs.map (·.2.2))
  | _, _, _, _, .nil => ⟨.nil, by rw [nks]; rfl, fun d z => (nomatch z), .nil, .nil⟩
  | _, _, _, _, .cons r e kd kt s vv t => by
    obtain ⟨a1, a2, a3, a4, a5⟩ := KVr.to t
    refine ⟨.cons r a1, ?_, fun d hd => ?_, .cons s a4, .cons vv a5⟩
    · rw [List.map_cons, nks, a2, e]
    · rcases List.mem_cons.mp hd with z | z
      · rw [z]; exact ⟨kd, kt⟩
      · exact a3 d z
theorem KVr.mono (ex : Ext m h H m' h' H') (w : HS K m h H) : ∀ {xs : KX} {us : List V} {ks vs : List D}, KVr K m H h.n xs us ks vs → KVr K m' H' h'.n xs us ks vs
  | _, _, _, _, .nil => .nil
  | _, _, _, _, .cons r e kd kt s vv t => .cons (r.mono ex w) e kd kt (s.mono ex w) vv (KVr.mono ex w t)
/-- the dict at an address -/
theorem DctOk.kv {a : Addr} {ks vs : List D} (x : DctOk K m H n a ks vs) : ∃ w xs us, Dc K H a w xs us ∧ KVr K m H n xs us ks vs := by
  obtain ⟨w, xs, us, r, s, l, nd, rk, ek, kk, rv, vv⟩ := x
  have kr := KVr.of rk ek kk rv vv
  refine ⟨w, xs, us, ⟨r, s, l, nd, ?_, vv⟩, kr⟩
  clear r s l nd rk ek kk rv vv
  induction kr with
  | nil => intro x z; cases z
  | cons r e kd kt s vv t ih =>
    intro x hx
    rcases List.mem_cons.mp hx with z | z
    · subst z
      obtain ⟨q1, q2⟩ := r.nv kd
      rw [e] at q1 q2
      exact ⟨q1, q2⟩
    · exact ih x z
/-- the value at a key: k, or none -/
def dgetL (ks : List D) (x : D) : List D → (D → Bool) → Bool → Bool := @List.rec D (fun _ => List D → (D → Bool) → Bool → Bool) (fun _ _ no => no) (fun y _ ih vs k no => @List.rec D (fun _ => Bool) false (fun v vr _ => bsel (eqD y x) (k v) (ih vr k no)) vs) ks
theorem vAt_cons {kk : NestedKey} {b : Addr} {u : Value} {xs : KX} {us : List V} (q : NestedKey) : vAt ((kk, b, u) :: xs) (v :: us) q = if kk = q then some v else vAt xs us q := by
  unfold vAt
  show List.lookup q ((kk, v) :: _) = _
  rw [List.lookup_cons]
  by_cases e : kk = q
  · rw [if_pos e, e, show (q == q) = true from by simp]
  · rw [if_neg e, show (q == kk) = false from by simpa using fun z => e z.symm]
    rfl
theorem dgetL_true {x : D} {p : Nat} (kx : Kd x p) {k : D → Bool} {no : Bool} : ∀ {xs : KX} {us : List V} {ks vs : List D}, KVr K m H n xs us ks vs → dgetL ks x vs k no = true →
    (vAt xs us (nk x) = none ∧ no = true) ∨ ∃ v d, vAt xs us (nk x) = some v ∧ RD K m H n v d ∧ k d = true
  | _, _, _, _, .nil, q => .inl ⟨rfl, q⟩
  | _, _, _, _, .cons (d := d) (dv := dv) (ks := ks) (vs := vs) r e kd kt s vv t, q => by
    have q' : bsel (eqD d x) (k dv) (dgetL ks x vs k no) = true := q
    rw [eqD_nk kd kx, e] at q'
    rw [vAt_cons]
    rcases bsel_true q' with ⟨e1, q2⟩ | ⟨e1, q2⟩
    · rw [if_pos (of_decide_eq_true e1)]
      exact .inr ⟨_, dv, rfl, s, q2⟩
    · rw [if_neg (of_decide_eq_false e1)]
      exact dgetL_true kx t q2
/-- a key with its value is put -/
def dput (ks : List D) (x v : D) : List D → (List D → List D → Bool) → Bool := @List.rec D (fun _ => List D → (List D → List D → Bool) → Bool) (fun _ k => k [x] [v]) (fun y r ih vs k => @List.rec D (fun _ => Bool) false (fun u us _ => bsel (eqD y x) (k (y :: r) (v :: us)) (ih us fun ks vs => k (y :: ks) (u :: vs))) vs) ks
theorem putAt_id {q : NestedKey} {u : Value} : ∀ {xs : KX}, q ∉ xs.map (·.1) → xs.map (putAt q u) = xs
  | [], _ => rfl
  | y :: xs, hn => by
    have h1 : y.1 ≠ q := fun e => hn (by rw [List.map_cons, e]; exact List.mem_cons_self)
    rw [List.map_cons, putAt_id fun z => hn (by rw [List.map_cons]; exact List.mem_cons_of_mem _ z)]
    congr 1
    simp [putAt, h1]
theorem storedH_hit {kk : NestedKey} {b b' : Addr} {u u' : Value} {xs : KX} (hn : kk ∉ xs.map (·.1)) : storedH ((kk, b, u) :: xs) kk b' u' = (kk, b, u') :: xs := by
  have z : atKey ((kk, b, u) :: xs) kk = some (b, u) := by simp [atKey]
  rw [storedH_old z, List.map_cons, putAt_id hn]
  simp [putAt]
theorem storedH_miss {kk q : NestedKey} {b b' : Addr} {u u' : Value} {xs : KX} (hn : kk ≠ q) : storedH ((kk, b, u) :: xs) q b' u' = (kk, b, u) :: storedH xs q b' u' := by
  have z : atKey ((kk, b, u) :: xs) q = atKey xs q := by simp [atKey, hn]
  unfold storedH
  rw [z]
  split
  · rw [List.map_cons]
    congr 1
    simp [putAt, hn]
  · rfl
theorem dput_true {x dv0 : D} {b0 : Addr} {u0 : Value} {v0 : V} (rx : RD K m H n (.ref b0) x) (kx : Kd x 8) (tx : ∃ p ds, x = .tup p ds) (rv : RD K m H n v0 dv0) (vv0 : RelV v0 u0) : ∀ {xs : KX} {us : List V} {ks vs : List D} {k : List D → List D → Bool}, KVr K m H n xs us ks vs → (xs.map (·.1)).Nodup → dput ks x dv0 vs k = true →
    ∃ us' ks' vs', KVr K m H n (storedH xs (nk x) b0 u0) us' ks' vs' ∧ ((storedH xs (nk x) b0 u0).map (·.1)).Nodup ∧ k ks' vs' = true
  | _, _, _, _, k, .nil, _, q => by
    refine ⟨[v0], [x], [dv0], ?_, ?_, q⟩
    · rw [show storedH ([] : KX) (nk x) b0 u0 = [(nk x, b0, u0)] from rfl]
      exact .cons rx rfl kx tx rv vv0 .nil
    · rw [show storedH ([] : KX) (nk x) b0 u0 = [(nk x, b0, u0)] from rfl]
      simp
  | _, _, _, _, k, .cons (kk := kk) (d := d) (dv := dv) (xs := xs) (us := us) (ks := ks) (vs := vs) r e kd kt s vv t, nd, q => by
    have q' : bsel (eqD d x) (k (d :: ks) (dv0 :: vs)) (dput ks x dv0 vs fun ks vs => k (d :: ks) (dv :: vs)) = true := q
    rw [eqD_nk kd kx, e] at q'
    rw [List.map_cons, List.nodup_cons] at nd
    rcases bsel_true q' with ⟨e1, q2⟩ | ⟨e1, q2⟩
    · have e1 : kk = nk x := of_decide_eq_true e1
      rw [← e1, storedH_hit nd.1]
      exact ⟨v0 :: us, d :: ks, dv0 :: vs, .cons r e kd kt rv vv0 t, by rw [List.map_cons, List.nodup_cons]; exact nd, q2⟩
    · have e1 : kk ≠ nk x := of_decide_eq_false e1
      obtain ⟨us', ks', vs', t', nd', q3⟩ := dput_true rx kx tx rv vv0 t nd.2 q2
      rw [storedH_miss e1]
      refine ⟨_ :: us', d :: ks', dv :: vs', .cons r e kd kt s vv t', ?_, q3⟩
      rw [List.map_cons, List.nodup_cons]
      refine ⟨fun z => ?_, nd'⟩
      obtain ⟨y, hy, ey⟩ := List.mem_map.mp z
      rcases mem_storedH_key hy with ⟨y', hy', e3, _⟩ | ⟨e3, _⟩
      · exact nd.1 (by rw [← ey, e3]; exact List.mem_map_of_mem hy')
      · exact e1 (ey.symm.trans e3)
end
end Pv
set_option Elab.async false
set_option linter.all false
set_option maxRecDepth 100000
set_option maxHeartbeats 4000000
/-! Dicts: combinators. -/
noncomputable section
namespace Pv
open PySem PySem.Spec PyProof.Rows L2
section
variable {X : Cx} {K : PySem.W.Frag} {m m' : Nat → Addr} {h h' : Hv} {H H' : Hp} {es : List D} {σ : L2.St} {v : V} {d : D} {k : KD} {Q : VK} {e a b : Expr} {pos : Pos} {j n : Nat} {κ : KS} {E : Ends}
/-- the dict of the heap -/
def dctR (j : Nat) (h : Hv) (k : List D → List D → Bool) : Bool := look h.m j fun o => @LO.rec (fun _ => Bool) (fun _ => false) k false o
theorem dctR_true {k : List D → List D → Bool} (w : HS K m h H) (q : dctR j h k = true) : ∃ ks vs, lk h.m j = some (.dct ks vs) ∧ DctOk K m H h.n (m j) ks vs ∧ k ks vs = true := by
  obtain ⟨o, e, q⟩ := look_true q
  obtain ⟨_, od⟩ := w.obj j o e
  cases o with
  | lst ds => cases q
  | dct ks vs => exact ⟨ks, vs, e, od, q⟩
  | tin => cases q
/-- of a list or of a dict -/
def objR (j : Nat) (h : Hv) (a : List D → Bool) (b : List D → List D → Bool) : Bool := look h.m j fun o => @LO.rec (fun _ => Bool) a b false o
theorem objR_true {a : List D → Bool} {b : List D → List D → Bool} (q : objR j h a b = true) : seqR j h a = true ∨ dctR j h b = true := by
  unfold objR at q
  unfold seqR dctR
  rw [look_eq] at q ⊢
  rw [look_eq]
  cases e : lk h.m j with
  | none => rw [e] at q; cases q
  | some o =>
    rw [e] at q
    cases o with
    | lst ds => exact .inl q
    | dct ks vs => exact .inr q
    | tin => cases q

/-! ### o[i] -/
def ixG (x y : D) (h : Hv) (k : KD) : Bool := dc x nF nF (fun _ ds => ixL ds y fun d => k d h) (fun ds => ixL ds y fun d => k d h) (fun j => objR j h (fun ds => ixL ds y fun d => k d h) (fun ks vs => kOk y (dgetL ks y vs (fun d => k d h) false))) aF
def rIxG (K : PySem.W.Frag) : R2 := fun x y H Q => rIx K x y H Q ∨ rDix K x y H Q
theorem ix_any (hu : X.A.units + 65 < cLine) : IxR X (rIxG X.K) := IxR.or ix_seq (ix_dct hu)
theorem dk_of {x y : V} {dy : D} {jj : Nat} {ks vs : List D} (ey : x = .ref (m jj)) (dk : DctOk K m H h.n (m jj) ks vs) (ry : RD K m H h.n y dy) (ky : Kd dy 8) (ty : ∃ p ds, dy = .tup p ds) :
    ∃ b w xs us, DK K H x y (m jj) b w xs us (nk dy) ∧ KVr K m H h.n xs us ks vs ∧ y = .ref b := by
  obtain ⟨w, xs, us, dc, kr⟩ := dk.kv
  obtain ⟨q1, q2⟩ := ry.nv ky
  obtain ⟨p, ds, rfl⟩ := ty
  cases ry with
  | tup s r z zz => exact ⟨_, w, xs, us, ⟨ey, rfl, dc, q1, q2⟩, kr, rfl⟩
theorem ixG_ok : OpOk K ixG (rIxG K) := by
  intro m h H es σ x y dx dy k Q w rx ry q p
  cases rx with
  | tup s r z zz => exact .inl (ixD_ok m h H es σ _ y _ dy k Q w (.tup s r z zz) ry q p)
  | tpr s r => exact .inl (ixD_ok m h H es σ _ y _ dy k Q w (.tpr s r) ry q p)
  | ref j lj =>
    rcases objR_true (show objR j h _ _ = true from q) with q1 | q1
    · exact .inl (ixD_ok m h H es σ _ y _ dy k Q w (.ref j lj) ry q1 p)
    · obtain ⟨ks, vs, _, dk, q2⟩ := dctR_true w.hs q1
      obtain ⟨ky, ty, q3⟩ := kOk_true q2
      obtain ⟨b, wd, xs, us, dd, kr, _⟩ := dk_of rfl dk ry ky ty
      rcases dgetL_true ky kr q3 with ⟨_, z⟩ | ⟨v, d, ev, rv, q4⟩
      · cases z
      · exact .inr ⟨_, b, wd, xs, us, _, v, dd, ev, p.now w rv q4⟩
  | _ => cases q
theorem ok_ixg {fa fb : ME} (hu : X.A.units + 65 < cLine) (ha : PE X a (rdE X.K fa)) (hb : PE X b (rdE X.K fb)) (hs : PlainIx b) : PE X (.Subscript a b pos) (rdE X.K (o2 ixG fa fb)) := pe_mono (pe_ix (ix_any hu) ha hb hs) (two_ok ixG_ok)

/-! ### in -/
def inA (neg : Bool) (x y : D) (h : Hv) (k : Bool → Hv → Bool) : Bool := dc y nF nF (fun p ds => inG neg x (.tup p ds) h k) lF (fun j => objR j h (fun _ => inG neg x (.ref j) h k) (fun ks vs => kOk x (dgetL ks x vs (fun _ => k (bsel neg false true) h) (k (bsel neg true false) h)))) aF
def rInA (K : PySem.W.Frag) (neg : Bool) : R2 := fun x y H Q => rInB K neg x y H Q ∨ ∃ a b w xs us k, DK K H y x a b w xs us k ∧ Q (.bl (bsel neg (!(vAt xs us k).isSome) (vAt xs us k).isSome)) H
theorem op_inA (hu : X.A.units + 65 < cLine) : OpR X (compareOp .In) (rInA X.K false) := by
  intro pins s σ H x y v u Q I rx ry q
  rcases q with q | q
  · exact op_inB hu pins s σ H x y v u Q I rx ry q
  · exact op_dIn hu pins s σ H x y v u Q I rx ry q
theorem op_ninA (hu : X.A.units + 65 < cLine) : OpR X (compareOp .NotIn) (rInA X.K true) := by
  intro pins s σ H x y v u Q I rx ry q
  rcases q with q | q
  · exact op_notInB hu pins s σ H x y v u Q I rx ry q
  · exact op_dNin hu pins s σ H x y v u Q I rx ry q
theorem inA_ok {neg : Bool} : TpOk K (inA neg) (rInA K neg) := by
  intro m h H es σ x y dx dy k Q w rx ry q p
  cases ry with
  | tup s r z zz => exact .inl (inG_ok m h H es σ x _ dx _ k Q w rx (.tup s r z zz) q p)
  | ref j lj =>
    rcases objR_true (show objR j h _ _ = true from q) with q1 | q1
    · obtain ⟨_, _, _, _, _, q2, _, _⟩ := seqR_true w.hs q1
      exact .inl (inG_ok m h H es σ x _ dx _ k Q w rx (.ref j lj) q2 p)
    · obtain ⟨ks, vs, _, dk, q2⟩ := dctR_true w.hs q1
      obtain ⟨ky, ty, q3⟩ := kOk_true q2
      obtain ⟨b, wd, xs, us, dd, kr, _⟩ := dk_of rfl dk rx ky ty
      refine .inr ⟨_, b, wd, xs, us, _, dd, ?_⟩
      rcases dgetL_true ky kr q3 with ⟨ev, q4⟩ | ⟨v, d, ev, rv, q4⟩
      · rw [ev]
        refine p _ m h H Ext.refl w ?_
        cases neg <;> exact q4
      · rw [ev]
        refine p _ m h H Ext.refl w ?_
        cases neg <;> exact q4
  | _ => cases q

/-! ### d.get(k) -/
def eGet (o i : ME) : ME := fun es h k => o es h fun x h => dc x nF nF pF lF (fun j => dctR j h fun _ _ => i es h fun y h => dctR j h fun ks vs => kOk y (dgetL ks y vs (fun d => k d h) (k (.oth .non) h))) aF
theorem ok_get {o i : Expr} {fo fi : ME} {apos cpos : Pos} (hu : X.A.units + 65 < cLine) (ho : PE X o (rdE X.K fo)) (hi : PE X i (rdE X.K fi)) (mm : M1 X o "get" apos i cpos) : PE X (.Call (.Attribute o "get" apos) [i] [] cpos) (rdE X.K (eGet fo fi)) := by
  refine pe_mono (pe_dg1 hu ho hi mm) ?_
  rintro σ H Q ⟨m, h, es, k, w, q, p⟩
  refine ⟨m, h, es, _, w, q, fun x m1 h1 H1 dx e1 w1 r1 q1 => ?_⟩
  cases r1 with
  | ref j lj =>
    obtain ⟨ks, vs, _, dk, q2⟩ := dctR_true w1.hs (show dctR j h1 _ = true from q1)
    obtain ⟨wd, xs, us, dc, _⟩ := dk.kv
    refine ⟨_, wd, xs, us, rfl, dc, m1, h1, es, _, w1, q2, fun y m2 h2 H2 dy e2 w2 r2 q3 => ?_⟩
    obtain ⟨ks2, vs2, _, dk2, q4⟩ := dctR_true w2.hs (show dctR j h2 _ = true from q3)
    rw [e2.agr j lj] at dk2
    obtain ⟨ky, ty, q5⟩ := kOk_true q4
    have dk3 : DctOk X.K m2 H2 h2.n (m2 j) ks2 vs2 := by rw [e2.agr j lj]; exact dk2
    obtain ⟨b, wd2, xs2, us2, dd, kr, _⟩ := dk_of (m := m2) (jj := j) (x := .ref (m2 j)) rfl dk3 r2 ky ty
    rw [e2.agr j lj] at dd
    refine ⟨b, wd2, xs2, us2, _, dd, ?_⟩
    rcases dgetL_true ky kr q5 with ⟨ev, q6⟩ | ⟨v, d, ev, rv, q6⟩
    · rw [ev]
      exact p _ m2 h2 H2 _ (e1.trans e2) w2 .non q6
    · rw [ev]
      exact p _ m2 h2 H2 _ (e1.trans e2) w2 rv q6
  | _ => cases q1

/-! ### {} -/
def eDnew : ME := fun _ h k => alloc (.dct [] []) h k
theorem Po.newO (p : Po K m h H es σ k Q) (w : W K m h H es σ) {o : LO} {ho : HO} (q : alloc o h k = true) (a : Addr) (na : H a = none) (od : OD K (fun j => if j = h.n then a else m j) (upd H a ho) (h.n + 1) a o) : Q (.ref a) (upd H a ho) := by
  rw [alloc_eq] at q
  obtain ⟨w', ex⟩ := w.hs.alloc na od
  have rr : RD K (fun j => if j = h.n then a else m j) (upd H a ho) (h.n + 1) (.ref ((fun j => if j = h.n then a else m j) h.n)) (.ref h.n) := .ref h.n (Nat.lt_succ_self _)
  rw [show (fun j => if j = h.n then a else m j) h.n = a from if_pos rfl] at rr
  exact p _ _ _ _ _ ex (w.mono ex w') rr q
/-- readings go over to a new object's heap -/
theorem RDs.newO {vs : List V} {ds : List D} (r : RDs K m H h.n vs ds) {a : Addr} (na : H a = none) (ho : HO) : RDs K (fun j => if j = h.n then a else m j) (upd H a ho) (h.n + 1) vs ds := by
  have ex : Ext m ⟨h.n, []⟩ H (fun j => if j = h.n then a else m j) ⟨h.n + 1, []⟩ (upd H a ho) := by
    refine ⟨Nat.le_succ _, fun j hj => if_neg (Nat.ne_of_lt hj), fun b ob e _ => ⟨?_, fun j z => (nomatch z)⟩, fun j z => (nomatch z)⟩
    rw [upd_ne (ne_of_none e na)]; exact e
  exact r.mono (h := ⟨h.n, []⟩) (h' := ⟨h.n + 1, []⟩) ex ⟨fun j o z => (nomatch z), fun i j z => (nomatch z), List.Pairwise.nil⟩
theorem ok_dnew : PE X (.Dict [] [] pos) (rdE X.K eDnew) := by
  refine pe_mono pe_dnew ?_
  rintro σ H Q ⟨m, h, es, k, w, q, p⟩
  intro a na sy
  exact p.newO w q a na ⟨X.w, [], [], upd_same, sy, Nat.zero_le _, List.nodup_nil, .nil, by rw [nks]; rfl, fun d z => (nomatch z), .nil, .nil⟩

/-! ### o[i] = e -/
def sSubG (e o i : ME) : MS := fun es h κ => e es h fun v h => o es h fun x h => i es h fun y h => dc x nF nF pF lF (fun j => objR j h
  (fun ds => setIx ds y v fun ds => κ.nx es ⟨h.n, put h.m j (.lst ds)⟩)
  (fun ks vs => kOk y (bsel (Nat.blt (lenL ks) 16777216) (dput ks y v vs fun ks vs => κ.nx es ⟨h.n, put h.m j (.dct ks vs)⟩) false))) aF
theorem put_ok {jj : Nat} {ks vs ks' vs' : List D} {wd : World} {xs' : KX} {us' : List V} (w : HS K m h H) (q : lk h.m jj = some (.dct ks vs)) (sy : (m jj == sysModules) = false) (hl : xs'.length ≤ sizeLine) (nd : (xs'.map (·.1)).Nodup) (kr : KVr K m H h.n xs' us' ks' vs') :
    HS K m ⟨h.n, put h.m jj (.dct ks' vs')⟩ (upd H (m jj) (dctO (m jj) (xs'.map (entK wd)))) ∧ Ext m h H m ⟨h.n, put h.m jj (.dct ks' vs')⟩ (upd H (m jj) (dctO (m jj) (xs'.map (entK wd)))) := by
  have lj : Pv.live h.m jj := by unfold Pv.live; rw [q]; rfl
  have ex : Ext m h H m ⟨h.n, put h.m jj (.dct ks' vs')⟩ (upd H (m jj) (dctO (m jj) (xs'.map (entK wd)))) := by
    refine ⟨Nat.le_refl _, fun _ _ => rfl, fun a ob e z => ⟨?_, fun i y => z i (live_put.mp y)⟩, fun i y => live_put.mpr y⟩
    rw [upd_ne (Ne.symm (z jj lj))]; exact e
  obtain ⟨a1, a2, a3, a4, a5⟩ := (kr.mono ex w).to
  exact w.write q ⟨wd, xs', us', upd_same, sy, hl, nd, a1, a2, a3, a4, a5⟩ trivial
def rSetG (K : PySem.W.Frag) : TSet := fun o i v H Q => rSetL o i v H Q ∨ rDset K o i v H Q
theorem set_any (hu : X.A.units + 65 < cLine) : PSet X (rSetG X.K) := by
  intro pins s σ H o i v ov iv u Q I ro ri rv q
  rcases q with q | q
  · exact set_list pins s σ H o i v ov iv u Q I ro ri rv q
  · exact set_dct hu pins s σ H o i v ov iv u Q I ro ri rv q
theorem KVr.length : ∀ {xs : KX} {us : List V} {ks vs : List D}, KVr K m H n xs us ks vs → xs.length = ks.length
  | _, _, _, _, .nil => rfl
  | _, _, _, _, .cons _ _ _ _ _ _ t => by rw [List.length_cons, List.length_cons, t.length]
theorem ok_ssubg {o i : Expr} {fe fo fi : ME} {tpos : Pos} (hu : X.A.units + 65 < cLine) (he : PE X e (rdE X.K fe)) (ho : PE X o (rdE X.K fo)) (hi : PE X i (rdE X.K fi))
    (hasg : ∀ v, assign (.Subscript o i tpos) X.env v = (do
      let ov ← holding [v] (eval o X.env)
      let iv ← holding [v, ov] (eval i X.env)
      standAt tpos
      holding [v, ov, iv] (setItem ov iv v)
      release [v, ov, iv] []))
    (hs : swapsWithSole [.Subscript o i tpos] e pos.line X.env = pure false) (hw : swappedStores [.Subscript o i tpos] e X.env = pure none) (h1 : (assignEach [.Subscript o i tpos] X.env).map (·.2) = [assign (.Subscript o i tpos) X.env]) :
    PS X (.Assign [.Subscript o i tpos] e pos) (rdS X.K (sSubG fe fo fi)) := by
  refine ps_mono (ps_asg he (pg_sub ho hi (set_any hu) hasg) hs hw h1) ?_
  rintro E σ H ⟨m, h, es, κ, w, q, p⟩
  refine ⟨m, h, es, _, w, q, fun v m1 h1 H1 d e1 w1 r1 q1 => ?_⟩
  refine ⟨m1, h1, es, _, w1, q1, fun x m2 h2 H2 dx e2 w2 r2 q2 => ?_⟩
  refine ⟨m2, h2, es, _, w2, q2, fun y m3 h3 H3 dy e3 w3 r3 q3 => ?_⟩
  have rx := r2.mono e3 w2.hs
  have rv := (r1.mono e2 w1.hs).mono e3 w2.hs
  have e03 := (e1.trans e2).trans e3
  cases rx with
  | ref j lj =>
    rcases objR_true (show objR j h3 _ _ = true from q3) with q4 | q4
    · obtain ⟨ds, vs, u, q5, rfl, q6, hh, rs⟩ := seqR_true w3.hs q4
      obtain ⟨i, z, rfl, ez, q7⟩ := setIx_true r3 q6
      obtain ⟨w4, e4⟩ := OD.lst_new w3.hs q5 (rs.set rv z)
      refine .inl ⟨_, vs, i, z, rfl, rfl, hh, by rw [rs.length]; exact ez, ?_⟩
      exact p.nx m3 _ _ es σ (e03.trans e4) (w3.mono e4 w4) q7
    · obtain ⟨ks, vs, q5, dk, q6⟩ := dctR_true w3.hs q4
      obtain ⟨ky, ty, q7⟩ := kOk_true q6
      obtain ⟨lb, q8⟩ := bsel_tf q7
      rw [lenL_eq] at lb
      obtain ⟨b, wd, xs, us, dd, kr, ey⟩ := dk_of (x := .ref (m3 j)) rfl dk r3 ky ty
      subst ey
      have ll : xs.length < sizeLine := by rw [kr.length, sizeLine_eq]; exact blt_lt lb
      refine .inr ⟨_, b, wd, xs, us, _, dd, ll, fun u ru => ?_⟩
      obtain ⟨us', ks', vs', kr', nd', q9⟩ := dput_true r3 ky ty rv ru kr dd.dc.nd q8
      obtain ⟨w4, e4⟩ := put_ok (wd := wd) w3.hs q5 dd.dc.sys (Nat.le_trans (storedH_length _ _ _ _) ll) nd' kr'
      exact p.nx m3 _ _ es σ (e03.trans e4) (w3.mono e4 w4) q9
  | _ => cases q3

/-! ### list(d) -/
def listA (x : D) (h : Hv) (k : KD) : Bool := dc x nF nF (fun _ ds => alloc (.lst ds) h k) (fun ds => alloc (.lst ds) h k) (fun j => objR j h (fun ds => alloc (.lst ds) h k) (fun ks _ => alloc (.lst ks) h k)) aF
def rListA (K : PySem.W.Frag) : List V → Hp → VK → Prop := fun xs H Q => (∃ p ys, xs = [.ref p] ∧ (SqL K H p ys ∨ SqT K H p ys) ∧ ∀ l, H l = none → Q (.ref l) (upd H l (.lst ys))) ∨ ∃ a w xs' us, xs = [V.ref a] ∧ Dc K H a w xs' us ∧ ∀ p, H p = none → Q (.ref p) (upd H p (.lst (xs'.map fun x => V.ref x.2.1)))
theorem call_listA (hc : X.calm = true) : CallR X (.type "list") (rListA X.K) := by
  intro pins s σ H xs us Q I r q
  rcases q with q | q
  · exact call_list_of pins s σ H xs us Q I r q
  · exact call_lstD hc pins s σ H xs us Q I r q
theorem listA_ok : BOk K (ar1 listA) (rListA K) := by
  intro m h H es σ vs ds k Q w r0 q p
  obtain ⟨x, dx, rfl, rx, q⟩ := ar1_true r0 q
  clear r0
  cases rx with
  | tup s r z zz =>
    have q' : alloc (.lst _) h k = true := q
    exact .inl ⟨_, _, rfl, .inr s, fun l nl => p.newLst w r q' l nl⟩
  | tpr s r =>
    have q' : alloc (.lst _) h k = true := q
    exact .inl ⟨_, _, rfl, .inr s, fun l nl => p.newLst w r q' l nl⟩
  | ref j lj =>
    rcases objR_true (show objR j h _ _ = true from q) with q1 | q1
    · obtain ⟨ds, vs, u, _, _, q2, hh, rs⟩ := seqR_true w.hs q1
      exact .inl ⟨_, vs, rfl, .inl (SqL.of hh), fun l nl => p.newLst w rs q2 l nl⟩
    · obtain ⟨ks, vs, _, dk, q2⟩ := dctR_true w.hs q1
      obtain ⟨wd, xs, us, dc, kr⟩ := dk.kv
      exact .inr ⟨_, wd, xs, us, rfl, dc, fun l nl => p.newLst w kr.to.1 q2 l nl⟩
  | _ => cases q
end
end Pv
set_option Elab.async false
set_option linter.all false
set_option maxRecDepth 100000
set_option maxHeartbeats 4000000
/-! dict(pairs) with tuples for keys. -/
noncomputable section
namespace Pv
open PySem PySem.Spec PyProof.Rows L2
section
variable {X : Cx} {K : PySem.W.Frag} {m m' : Nat → Addr} {h h' : Hv} {H H' : Hp} {es : List D} {σ : L2.St} {v : V} {d : D} {k : KD} {Q : VK} {e a b : Expr} {pos : Pos} {j n : Nat} {pins : List (Addr × Obj)} {s : Shared}
/-- pairs of keys and values, by their tuples -/
inductive Prs (K : PySem.W.Frag) (H : Hp) : List Addr → List (NestedKey × Addr × V) → Prop
  | nil : Prs K H [] []
  | cons {p b : Addr} {k : NestedKey} {v : V} {ps : List Addr} {l : List (NestedKey × Addr × V)} : SqT K H p [.ref b, v] → NV K H k (.ref b) → k.depth ≤ 8 → Prs K H ps l → Prs K H (p :: ps) ((k, b, v) :: l)
inductive Rls : List (NestedKey × Addr × V) → KX → Prop
  | nil : Rls [] []
  | cons {b : Addr} {k : NestedKey} {v : V} {u : Value} {l : List (NestedKey × Addr × V)} {xs : KX} : L2.RelV v u → Rls l xs → Rls ((k, b, v) :: l) ((k, b, u) :: xs)
theorem Prs.vals (I : Inv X pins σ H s) : ∀ {ps : List Addr} {l : List (NestedKey × Addr × V)}, Prs X.K H ps l → ∃ xs : KX, Rls l xs ∧ xs.length = ps.length ∧ (∀ (j : Nat) (x : NestedKey × Addr × Value), xs[j]? = some x → ∃ p, ps[j]? = some p ∧ s.heap.IsTuple p #[.ref x.2.1, x.2.2]) ∧ ∀ x ∈ xs, (nestedKind X.prog X.w).is s.heap x.1 x.2.1
  | _, _, .nil => ⟨[], .nil, rfl, fun j x e => by simp at e, fun x z => (nomatch z)⟩
  | _, _, .cons (p := p) (b := b) (k := kk) sq kv kd t => by
    obtain ⟨xs, r, hl, hp, hk⟩ := Prs.vals I t
    obtain ⟨its, rv, pt, _⟩ := I.tuple sq
    obtain ⟨u1, u2, rfl, r1, r2⟩ := vals2 rv
    obtain rfl : u1 = Value.ref b := r1
    refine ⟨(kk, b, u2) :: xs, .cons r2 r, by rw [List.length_cons, List.length_cons, hl], fun j x e => ?_, fun x hx => ?_⟩
    · cases j with
      | zero => cases e; exact ⟨p, rfl, pt⟩
      | succ j =>
        obtain ⟨q, e1, e2⟩ := hp j x (by simpa using e)
        exact ⟨q, by simpa using e1, e2⟩
    · rcases List.mem_cons.mp hx with z | z
      · rw [z]; exact ⟨kv.is I rfl, kd⟩
      · exact hk x z
theorem Prs.nv : ∀ {ps : List Addr} {l : List (NestedKey × Addr × V)} {xs : KX}, Prs K H ps l → Rls l xs → ∀ x ∈ xs, NV K H x.1 (.ref x.2.1) ∧ x.1.depth ≤ 8
  | _, _, _, .nil, r => by cases r; exact fun x z => (nomatch z)
  | _, _, _, .cons sq kv kd t, r => by
    cases r with
    | cons r1 r2 =>
      intro x hx
      rcases List.mem_cons.mp hx with z | z
      · rw [z]; exact ⟨kv, kd⟩
      · exact Prs.nv t r2 x z
theorem refs_eq : ∀ {ps : List Addr} {us : List Value}, Vals (ps.map V.ref) us → us = ps.map Value.ref
  | [], us, r => by cases r; rfl
  | p :: ps, us, r => by
    cases r with
    | cons r1 r2 =>
      rename_i u us
      have e1 : u = Value.ref p := r1
      rw [e1, refs_eq r2]
      rfl
theorem storedAll_nv {xs ps : KX} (h1 : ∀ x ∈ xs, NV K H x.1 (.ref x.2.1) ∧ x.1.depth ≤ 8) (h2 : ∀ x ∈ ps, NV K H x.1 (.ref x.2.1) ∧ x.1.depth ≤ 8) : ∀ x ∈ storedAllH xs ps, NV K H x.1 (.ref x.2.1) ∧ x.1.depth ≤ 8 :=
  storedAllH_keys (P := fun k b => NV K H k (.ref b) ∧ k.depth ≤ 8) h1 h2
/-- dict(l) of pairs -/
def rDictP (K : PySem.W.Frag) (w : World) : List V → Hp → VK → Prop := fun vs H Q => ∃ (a : Addr) (ps : List Addr) (l : List (NestedKey × Addr × V)), vs = [.ref a] ∧ SqL K H a (ps.map V.ref) ∧ Prs K H ps l ∧
  ∀ p xs, H p = none → (p == sysModules) = false → xs.length ≤ sizeLine → Rls l xs → Q (.ref p) (upd H p (dctO p ((storedAllH [] xs).map (entK w))))
theorem call_dictT (hc : X.calm = true) (hu : X.A.units + 65 < cLine) : CallR X (.type "dict") (rDictP X.K X.w) := by
  intro pins s σ H vs uu Q I r q
  obtain ⟨a, ps, l, rfl, sq, pr, q⟩ := q
  obtain ⟨u, rfl, rx⟩ := r.one
  obtain rfl : u = Value.ref a := rx
  obtain ⟨its, rv, pl, hz⟩ := I.list sq
  obtain rfl := refs_eq rv
  rw [List.length_map] at hz
  obtain ⟨xs, rl, hl, hp, hk⟩ := pr.vals I
  obtain ⟨o, cap, e1, e2, e3, e4⟩ := pl
  have get : ∀ (j : Nat) (y : Value × Value), (xs.map fun x => (Value.ref x.2.1, x.2.2))[j]? = some y → ∃ x : NestedKey × Addr × Value, xs[j]? = some x ∧ y = (Value.ref x.2.1, x.2.2) := fun j y e => by
    rw [List.getElem?_map] at e
    obtain ⟨x, e5, e6⟩ := Option.map_eq_some_iff.mp e
    exact ⟨x, e5, e6.symm⟩
  have arg := PairArg.list (prog := X.prog) (w := X.w) a (ps.map Value.ref).toArray (fun j => ps.getD j 0) (xs.map fun x => (Value.ref x.2.1, x.2.2))
  refine call_dict_pairsH (knd := nestedKind X.prog X.w) (ps := xs) arg (I.ok.hd hc) (kindRoom2 hu) ⟨⟨o, cap, e1, e2, e3, e4⟩, ?_, ?_⟩ ⟨by rw [List.length_map], ?_⟩ ?_ (by rw [List.length_map, hl]; exact hz) fun hp' tk hd kp => ?_
  · rw [List.size_toArray, List.length_map, List.length_map, hl]
  · intro j k0 v0 e
    obtain ⟨x, e5, e6⟩ := get j _ e
    obtain ⟨p, e7, e8⟩ := hp j x e5
    cases e6
    have e9 : ps.getD j 0 = p := by rw [List.getD_eq_getElem?_getD, e7]; rfl
    refine ⟨?_, ?_⟩
    · show (ps.map Value.ref).toArray[j]? = some (Value.ref (ps.getD j 0))
      rw [e9]; simp [e7]
    · show PairAt _ (ps.getD j 0) _ _
      rw [e9]; exact .inl e8
  · intro j k0 v0 e
    obtain ⟨x, e5, e6⟩ := get j _ e
    cases e6
    exact ⟨x.1, x.2.1, e5, rfl⟩
  · intro hp' keep x hx
    refine nestedKind_stays.stays (fun b o' _ _ e _ => keep b o' (Nat.ne_of_lt (Heap.lt_size e)) (by simp) e) (hk x hx)
  · obtain ⟨o', es', ep, d1, d2, d3, d4, d5, d6⟩ := hd
    have sy : (s.heap.objs.size == sysModules) = false := beq_eq_false_iff_ne.mpr (Nat.ne_of_gt I.big)
    have ee : es' = ((storedAllH [] xs).map (entK X.w)).toArray := by
      rw [ent_eq (storedAll_nv (xs := []) (by intro x z; cases z) (pr.nv rl)) (P := X.prog) (w' := X.w), ← d4]
    refine ⟨.ref s.heap.objs.size, _, I.laid (o := dctO s.heap.objs.size ((storedAllH [] xs).map (entK X.w))) (t' := tk) (fun b u z => kp b u (by simp) z) (Nat.le_refl _) (dct_ok ⟨o', ep, d1, d2, ?_⟩), rfl, q _ xs (I.hok.fresh (Nat.le_refl _)) sy (by rw [hl]; exact hz) rl⟩
    rw [← ee]
    exact d3

/-! ### the combinator -/
/-- the pairs of a list of pairs -/
def prD (x : D) (k : D → D → Bool) : Bool := dc x nF nF (fun _ l => @List.rec D (fun _ => Bool) false (fun y r _ => @List.rec D (fun _ => Bool) false (fun v r _ => @List.rec D (fun _ => Bool) (k y v) (fun _ _ _ => false) r) r) l)
  (fun l => @List.rec D (fun _ => Bool) false (fun y r _ => @List.rec D (fun _ => Bool) false (fun v r _ => @List.rec D (fun _ => Bool) (k y v) (fun _ _ _ => false) r) r) l) nF aF
theorem prD_true {x : D} {vx : V} {k : D → D → Bool} (r : RD K m H n vx x) (q : prD x k = true) : ∃ a y v vy vv, vx = .ref a ∧ SqT K H a [vy, vv] ∧ RD K m H n vy y ∧ RD K m H n vv v ∧ k y v = true := by
  have go : ∀ {a : Addr} {vs : List V} {l : List D}, SqT K H a vs → RDs K m H n vs l → @List.rec D (fun _ => Bool) false (fun y r _ => @List.rec D (fun _ => Bool) false (fun v r _ => @List.rec D (fun _ => Bool) (k y v) (fun _ _ _ => false) r) r) l = true →
      ∃ y v vy vv, SqT K H a [vy, vv] ∧ RD K m H n vy y ∧ RD K m H n vv v ∧ k y v = true := fun {a vs l} s r q => by
    cases r with
    | nil => cases q
    | cons r1 r =>
      cases r with
      | nil => cases q
      | cons r2 r =>
        cases r with
        | nil => exact ⟨_, _, _, _, s, r1, r2, q⟩
        | cons _ _ => cases q
  cases r with
  | tup s r z zz =>
    obtain ⟨y, v, vy, vv, h1, h2, h3, h4⟩ := go s r q
    exact ⟨_, y, v, vy, vv, rfl, h1, h2, h3, h4⟩
  | tpr s r =>
    obtain ⟨y, v, vy, vv, h1, h2, h3, h4⟩ := go s r q
    exact ⟨_, y, v, vy, vv, rfl, h1, h2, h3, h4⟩
  | _ => cases q
def prsL (l : List D) : (List (D × D) → Bool) → Bool := @List.rec D (fun _ => (List (D × D) → Bool) → Bool) (fun k => k []) (fun x _ ih k => prD x fun y v => kOk y (ih fun r => k ((y, v) :: r))) l
def dpL (l : List (D × D)) : List D → List D → (List D → List D → Bool) → Bool := @List.rec (D × D) (fun _ => List D → List D → (List D → List D → Bool) → Bool) (fun ks vs k => k ks vs) (fun p _ ih ks vs k => @Prod.rec D D (fun _ => Bool) (fun y v => dput ks y v vs fun ks vs => ih ks vs k) p) l
/-- pairs beside data -/
inductive PrD (K : PySem.W.Frag) (m : Nat → Addr) (H : Hp) (n : Nat) : List Addr → List (NestedKey × Addr × V) → List (D × D) → Prop
  | nil : PrD K m H n [] [] []
  | cons {p b : Addr} {v : V} {kd vd : D} {ps : List Addr} {l : List (NestedKey × Addr × V)} {dl : List (D × D)} : SqT K H p [.ref b, v] → RD K m H n (.ref b) kd → Kd kd 8 → (∃ p ds, kd = .tup p ds) → RD K m H n v vd → PrD K m H n ps l dl → PrD K m H n (p :: ps) ((nk kd, b, v) :: l) ((kd, vd) :: dl)
theorem PrD.prs : ∀ {ps : List Addr} {l : List (NestedKey × Addr × V)} {dl : List (D × D)}, PrD K m H n ps l dl → Prs K H ps l
  | _, _, _, .nil => .nil
  | _, _, _, .cons sq rk kk _ _ t => .cons sq (rk.nv kk).1 (rk.nv kk).2 t.prs
theorem prsL_true : ∀ {l : List D} {vs : List V} {k : List (D × D) → Bool}, RDs K m H n vs l → prsL l k = true → ∃ ps ll dl, vs = ps.map V.ref ∧ PrD K m H n ps ll dl ∧ k dl = true
  | [], _, k, r, q => by
    cases r
    exact ⟨[], [], [], rfl, .nil, q⟩
  | x :: l, _, k, r, q => by
    cases r with
    | cons r1 r2 =>
      obtain ⟨a, y, v, vy, vv, rfl, sq, ry, rv, q2⟩ := prD_true r1 (show prD x _ = true from q)
      obtain ⟨ky, ty, q3⟩ := kOk_true q2
      obtain ⟨ps, ll, dl, e1, t, q4⟩ := prsL_true r2 q3
      obtain ⟨b, eb⟩ : ∃ b, vy = .ref b := by
        obtain ⟨pp, ds, ey⟩ := ty
        subst ey
        cases ry
        exact ⟨_, rfl⟩
      subst eb
      exact ⟨a :: ps, _, _, by rw [e1]; rfl, .cons sq ry ky ty rv t, q4⟩
theorem dpL_true : ∀ {ps : List Addr} {ll : List (NestedKey × Addr × V)} {dl : List (D × D)} {ks0 vs0 : List D} {k : List D → List D → Bool}, PrD K m H n ps ll dl → dpL dl ks0 vs0 k = true → ∀ {xs0 : KX} {us0 : List V}, KVr K m H n xs0 us0 ks0 vs0 → (xs0.map (·.1)).Nodup →
    ∀ xs, Rls ll xs → ∃ us' ks' vs', KVr K m H n (storedAllH xs0 xs) us' ks' vs' ∧ ((storedAllH xs0 xs).map (·.1)).Nodup ∧ k ks' vs' = true
  | _, _, _, ks0, vs0, k, .nil, q, xs0, us0, kr, nd, xs, z => by
    cases z
    exact ⟨us0, ks0, vs0, kr, nd, q⟩
  | _, _, _, ks0, vs0, k, .cons sq rk kk tk rv t, q, xs0, us0, kr, nd, xs, z => by
    cases z with
    | cons ru zz =>
      obtain ⟨us1, ks1, vs1, kr1, nd1, q2⟩ := dput_true rk kk tk rv ru kr nd (show dput ks0 _ _ vs0 _ = true from q)
      exact dpL_true t q2 kr1 nd1 _ zz
def dictD (x : D) (h : Hv) (k : KD) : Bool := dc x nF nF pF lF (fun j => seqR j h fun ds => prsL ds fun dl => dpL dl [] [] fun ks vs => alloc (.dct ks vs) h k) aF
theorem dictD_ok {w0 : World} : BOk K (ar1 dictD) (rDictP K w0) := by
  intro m h H es σ vs ds k Q w r q p
  obtain ⟨x, dx, rfl, rx, q⟩ := ar1_true r q
  cases rx with
  | ref j lj =>
    obtain ⟨ds, vs, u, _, _, q1, hh, rs⟩ := seqR_true w.hs (show seqR j h _ = true from q)
    obtain ⟨ps, ll, dl, rfl, pr, q2⟩ := prsL_true rs q1
    refine ⟨_, ps, ll, rfl, SqL.of hh, pr.prs, fun a xs na sy hl rl => ?_⟩
    obtain ⟨us', ks', vs', kr, nd, q3⟩ := dpL_true pr q2 (xs0 := []) .nil List.nodup_nil xs rl
    obtain ⟨a1, a2, a3, a4, a5⟩ := kr.to
    have l2 : (storedAllH [] xs).length ≤ sizeLine := Nat.le_trans (storedAllH_length xs []) (by rw [List.length_nil, Nat.zero_add]; exact hl)
    exact p.newO w q3 a na ⟨w0, _, us', upd_same, sy, l2, nd, a1.newO na _, a2, a3, a4.newO na _, a5⟩
  | _ => cases q
end
end Pv
set_option Elab.async false
set_option linter.all false
set_option maxRecDepth 100000
set_option maxHeartbeats 4000000
/-! isinstance, sum, max, min, methods of lists, chains of comparisons. -/
noncomputable section
namespace Pv
open PySem PySem.Spec PyProof.Rows L2
section
variable {X : Cx} {K : PySem.W.Frag} {m m' : Nat → Addr} {h h' : Hv} {H H' : Hp} {es : List D} {σ : L2.St} {v : V} {d : D} {k : KD} {Q : VK} {e a b c : Expr} {pos : Pos} {j n : Nat} {κ : KS} {E : Ends}

/-! ### isinstance -/
/-- what a class says of: an int, a bool, a text, None, a tuple, a list -/
structure Fl where
  i : Bool
  b : Bool
  s : Bool
  n : Bool
  t : Bool
  l : Bool
def isD (f : Fl) (x : D) (h : Hv) (k : Bool → Bool) : Bool := @Fl.rec (fun _ => Bool) (fun fi fb fs fn ft fl => dc x (fun _ => k fi) (fun _ => k fi) (fun _ _ => k ft) (fun _ => k ft) (fun j => seqR j h fun _ => k fl) (fun a => @At.rec (fun _ => Bool) false (k fn) (fun _ => k fb) (fun _ => k fs) a)) f
/-- the class of that name -/
structure IsT (T : String) (f : Fl) : Prop where
  i : kitB "int" T = some f.i
  b : kitB "bool" T = some f.b
  s : kitB "str" T = some f.s
  n : kitB "NoneType" T = some f.n
  t : kitB "tuple" T = some f.t
  l : kitB "list" T = some f.l
def flI : Fl := ⟨true, true, false, false, false, false⟩
def flB : Fl := ⟨false, true, false, false, false, false⟩
def flS : Fl := ⟨false, false, true, false, false, false⟩
def flT : Fl := ⟨false, false, false, false, true, false⟩
def flL : Fl := ⟨false, false, false, false, false, true⟩
theorem isT_int : IsT "int" flI := ⟨by decide +kernel, by decide +kernel, by decide +kernel, by decide +kernel, by decide +kernel, by decide +kernel⟩
theorem isT_bool : IsT "bool" flB := ⟨by decide +kernel, by decide +kernel, by decide +kernel, by decide +kernel, by decide +kernel, by decide +kernel⟩
theorem isT_str : IsT "str" flS := ⟨by decide +kernel, by decide +kernel, by decide +kernel, by decide +kernel, by decide +kernel, by decide +kernel⟩
theorem isT_tuple : IsT "tuple" flT := ⟨by decide +kernel, by decide +kernel, by decide +kernel, by decide +kernel, by decide +kernel, by decide +kernel⟩
theorem isT_list : IsT "list" flL := ⟨by decide +kernel, by decide +kernel, by decide +kernel, by decide +kernel, by decide +kernel, by decide +kernel⟩
def flO (f g : Fl) : Fl := ⟨f.i || g.i, f.b || g.b, f.s || g.s, f.n || g.n, f.t || g.t, f.l || g.l⟩
/-- the type of the value, and the flag of it -/
theorem isD_true {f : Fl} {x : D} {vx : V} {k : Bool → Bool} (w : HS K m h H) (r : RD K m H h.n vx x) (q : isD f x h k = true) : ∃ (ty : String) (g : Fl → Bool), TyX K H vx (.type ty) ∧ (∀ T f', IsT T f' → kitB ty T = some (g f')) ∧ k (g f) = true ∧ ∀ f1 f2, g (flO f1 f2) = (g f1 || g f2) := by
  obtain ⟨fi, fb, fs, fn, ft, fl⟩ := f
  cases r with
  | nat i => exact ⟨"int", Fl.i, .base (.int _), fun T f' t => t.i, q, fun _ _ => rfl⟩
  | neg i => exact ⟨"int", Fl.i, .base (.int _), fun T f' t => t.i, q, fun _ _ => rfl⟩
  | tup s r z zz =>
    refine ⟨"tuple", Fl.t, ?_, fun T f' t => t.t, q, fun _ _ => rfl⟩
    rcases s with (e | ⟨o, e⟩) | ⟨o, _, _, e, c, _⟩
    · exact .base (.tup e)
    · exact .fTuple e
    · exact .kTuple e c
  | tpr s r =>
    refine ⟨"tuple", Fl.t, ?_, fun T f' t => t.t, q, fun _ _ => rfl⟩
    rcases s with (e | ⟨o, e⟩) | ⟨o, _, _, e, c, _⟩
    · exact .base (.tup e)
    · exact .fTuple e
    · exact .kTuple e c
  | ref j lj =>
    obtain ⟨ds, vs, u, _, _, q2, hh, rs⟩ := seqR_true w (show seqR j h _ = true from q)
    exact ⟨"list", Fl.l, .base (.lst hh), fun T f' t => t.l, q2, fun _ _ => rfl⟩
  | non => exact ⟨"NoneType", Fl.n, .base .non, fun T f' t => t.n, q, fun _ _ => rfl⟩
  | bl b => exact ⟨"bool", Fl.b, .base (.bl b), fun T f' t => t.b, q, fun _ _ => rfl⟩
  | str x z => exact ⟨"str", Fl.s, .base (.str _), fun T f' t => t.s, q, fun _ _ => rfl⟩
def tIs (f : Fl) (a : ME) : MT := fun es h k => a es h fun x h => isD f x h fun b => k b h
def eIs (f : Fl) (a : ME) : ME := fun es h k => a es h fun x h => isD f x h fun b => k (.oth (.bl b)) h
theorem ok_isi {f : Fl} {T : String} {fa : ME} {p : Pos} (ht : IsT T f) (hg : Gl X "isinstance") (hm : X.mg "isinstance" = none) (ha : PE X a (rdE X.K fa)) (hT : PE X c (tC (.ty T)))
    (h1 : starEach [a, c] X.env = (false, eval a X.env) :: starEach [c] X.env) (h2 : starEach [c] X.env = [(false, eval c X.env)]) (hpl : (backTo pos (starEach [c] X.env)).any (·.1) = false) :
    PE X (.Call (.Name "isinstance" p) [a, c] [] pos) (rdE X.K (eIs f fa)) := by
  refine pe_mono (pe_callB call_isi hg hm boot_isinstance (pa_cons ha (pa_cons hT pa_nil h2) h1) (by decide) (by decide) h1 hpl) ?_
  rintro σ H Q ⟨m, h, es, k, w, q, p⟩
  refine ⟨m, h, es, _, w, q, fun x m1 h1 H1 dx e1 w1 r1 q1 => ?_⟩
  obtain ⟨ty, g, t1, t2, q2, _⟩ := isD_true w1.hs r1 q1
  exact ⟨x, .ty T, _, _, g f, rfl, .ty T, t1, kit_ty (t2 T f ht), p _ m1 h1 H1 _ e1 w1 (.bl _) q2⟩
theorem ok_isi2 {f g : Fl} {T U : String} {fa : ME} {p tp : Pos} {kk : Nat} {c1 c2 : Expr} (ht : IsT T f) (hu : IsT U g) (hg : Gl X "isinstance") (hm : X.mg "isinstance" = none) (ha : PE X a (rdE X.K fa)) (hT : PE X c1 (tC (.ty T))) (hU : PE X c2 (tC (.ty U)))
    (h1 : starEach [a, .Tuple [c1, c2] kk tp] X.env = (false, eval a X.env) :: starEach [.Tuple [c1, c2] kk tp] X.env) (h2 : starEach [.Tuple [c1, c2] kk tp] X.env = [(false, eval (.Tuple [c1, c2] kk tp) X.env)]) (hpl : (backTo pos (starEach [.Tuple [c1, c2] kk tp] X.env)).any (·.1) = false)
    (h3 : starEach [c1, c2] X.env = (false, eval c1 X.env) :: starEach [c2] X.env) (h4 : starEach [c2] X.env = [(false, eval c2 X.env)]) :
    PE X (.Call (.Name "isinstance" p) [a, .Tuple [c1, c2] kk tp] [] pos) (rdE X.K (eIs (flO f g) fa)) := by
  refine pe_mono (pe_callB call_isiT hg hm boot_isinstance (pa_cons ha (pa_cons (pe_tup (pa_cons hT (pa_cons hU pa_nil h4) h3)) pa_nil h2) h1) (by decide) (by decide) h1 hpl) ?_
  rintro σ H Q ⟨m, h, es, k, w, q, p⟩
  refine ⟨m, h, es, _, w, q, fun x m1 h1 H1 dx e1 w1 r1 q1 => ?_⟩
  refine ⟨by show 2 ≤ sizeLine; decide, fun tp na => ?_⟩
  obtain ⟨w2, ex⟩ := w1.hs.fresh (ho := .tup [.ty T, .ty U]) na
  obtain ⟨ty, gg, t1, t2, q2, t3⟩ := isD_true w2 (r1.mono ex w1.hs) q1
  refine ⟨x, tp, [.ty T, .ty U], _, [.type T, .type U], gg (flO f g), rfl, upd_same, .cons (.ty T) (.cons (.ty U) .nil), t1, ?_, p _ m1 h1 _ _ (e1.trans ex) (w1.mono ex w2) (.bl _) q2⟩
  rw [t3]
  refine kitAny_cons (kit_ty (t2 T f ht)) (fun e => ?_) (fun e => by rw [e]; rfl)
  rw [e, Bool.false_or]
  exact kitAny_cons (b := gg g) (kit_ty (t2 U g hu)) (fun e => by rw [e]; exact kitAny_nil) (fun e => e)
/-- any value that is a truth value, as a test -/
theorem ok_isT {f : Fl} {fa : ME} (ha : PE X a (rdE X.K (eIs f fa))) (he : ∀ whole, isTrue a X.env whole = (do let v ← whole; standAt a.pos; holding [v] (truthy v))) : PT X a (rdT X.K (tIs f fa)) := by
  refine pt_mono (ok_tE ha he) ?_
  rintro σ H Q ⟨m, h, es, k, w, q, p⟩
  exact ⟨m, h, es, k, w, q, p⟩

/-! ### sum, max, min -/
def intK (x : D) (k : D → Bool) : Bool := dc x (fun i => k (.nat i)) (fun i => k (.neg i)) pF lF nF aF
theorem intK_true {x : D} {vx : V} {k : D → Bool} (r : RD K m H n vx x) (q : intK x k = true) : ∃ i, vx = .int i ∧ x = dI i ∧ k (dI i) = true := by
  cases r with
  | nat i => exact ⟨Int.ofNat i, rfl, rfl, q⟩
  | neg i => exact ⟨Int.negSucc i, rfl, rfl, q⟩
  | _ => cases q
def addZ (x y : D) (k : D → Bool) : Bool := dc x
  (fun i => dc y (fun j => fN (Nat.add i j) fun n => k (.nat n)) (fun j => subK i (Nat.succ j) ⟨0, []⟩ fun d _ => k d) pF lF nF aF)
  (fun i => dc y (fun j => subK j (Nat.succ i) ⟨0, []⟩ fun d _ => k d) (fun j => fN (Nat.succ (Nat.add i j)) fun n => k (.neg n)) pF lF nF aF) pF lF nF aF
theorem addZ_true {i j : Int} {k : D → Bool} (q : addZ (dI i) (dI j) k = true) : k (dI (i + j)) = true := by
  cases i with
  | ofNat i =>
    cases j with
    | ofNat j =>
      have q' : fN (i + j) (fun n => k (.nat n)) = true := q
      rw [fN_eq] at q'
      exact q'
    | negSucc j =>
      have q' : subK i (j + 1) ⟨0, []⟩ (fun d _ => k d) = true := q
      rw [subK_eq] at q'
      rw [show (Int.ofNat i + Int.negSucc j) = (i : Int) - ((j + 1 : Nat) : Int) by rw [Int.negSucc_eq]; simp only [Int.ofNat_eq_natCast]; omega]
      exact q'
  | negSucc i =>
    cases j with
    | ofNat j =>
      have q' : subK j (i + 1) ⟨0, []⟩ (fun d _ => k d) = true := q
      rw [subK_eq] at q'
      rw [show (Int.negSucc i + Int.ofNat j) = (j : Int) - ((i + 1 : Nat) : Int) by rw [Int.negSucc_eq]; simp only [Int.ofNat_eq_natCast]; omega]
      exact q'
    | negSucc j =>
      have q' : fN (i + j + 1) (fun n => k (.neg n)) = true := q
      rw [fN_eq] at q'
      rw [show (Int.negSucc i + Int.negSucc j) = Int.negSucc (i + j + 1) by rw [Int.negSucc_eq, Int.negSucc_eq, Int.negSucc_eq]; omega]
      exact q'
def sumA (ds : List D) : (D → Bool) → Bool := @List.rec D (fun _ => (D → Bool) → Bool) (fun k => k (.nat 0)) (fun x _ ih k => intK x fun x => ih fun s => addZ x s k) ds
theorem sumA_true : ∀ {ds : List D} {vs : List V} {k : D → Bool}, RDs K m H n vs ds → sumA ds k = true → ∃ ns : List Int, vs = ns.map V.int ∧ k (dI ns.sum) = true
  | [], _, k, r, q => by
    cases r
    exact ⟨[], rfl, q⟩
  | x :: ds, _, k, r, q => by
    cases r with
    | cons r1 r2 =>
      obtain ⟨i, rfl, _, q2⟩ := intK_true r1 (show intK x (fun x => sumA ds fun s => addZ x s k) = true from q)
      obtain ⟨ns, rfl, q3⟩ := sumA_true r2 q2
      exact ⟨i :: ns, rfl, by rw [List.sum_cons]; exact addZ_true q3⟩
def sumD (x : D) (h : Hv) (k : KD) : Bool := dc x nF nF pF lF (fun j => seqR j h fun ds => sumA ds fun d => k d h) aF
theorem sum_ok : BOk K (ar1 sumD) (rSum K) := by
  intro m h H es σ vs ds k Q w r q p
  obtain ⟨x, dx, rfl, rx, q⟩ := ar1_true r q
  cases rx with
  | ref j lj =>
    obtain ⟨ds, vs, u, _, _, q1, hh, rs⟩ := seqR_true w.hs (show seqR j h _ = true from q)
    obtain ⟨ns, rfl, q2⟩ := sumA_true rs q1
    exact ⟨_, ns, rfl, SqL.of hh, p.now w (rd_dI _) q2⟩
  | _ => cases q
/-- x < y of ints -/
def ltZ (x y : D) (k : Bool → Bool) : Bool := dc x
  (fun i => dc y (fun j => bsel (Nat.blt i j) (k true) (k false)) (fun _ => k false) pF lF nF aF)
  (fun i => dc y (fun _ => k true) (fun j => bsel (Nat.blt j i) (k true) (k false)) pF lF nF aF) pF lF nF aF
theorem bsel_kb {b : Bool} {k : Bool → Bool} (q : bsel b (k true) (k false) = true) : k b = true := by cases b <;> exact q
theorem ltZ_true {i j : Int} {k : Bool → Bool} (q : ltZ (dI i) (dI j) k = true) : k (decide (i < j)) = true := by
  cases i with
  | ofNat i =>
    cases j with
    | ofNat j =>
      have q' := bsel_kb (show bsel (Nat.blt i j) (k true) (k false) = true from q)
      rw [blt_dec] at q'
      rw [show decide (Int.ofNat i < Int.ofNat j) = decide (i < j) from dec_congr (by simp only [Int.ofNat_eq_natCast]; omega)]
      exact q'
    | negSucc j =>
      rw [show decide (Int.ofNat i < Int.negSucc j) = false from decide_eq_false (by simp only [Int.ofNat_eq_natCast]; omega)]
      exact q
  | negSucc i =>
    cases j with
    | ofNat j =>
      rw [show decide (Int.negSucc i < Int.ofNat j) = true from decide_eq_true (by simp only [Int.ofNat_eq_natCast]; omega)]
      exact q
    | negSucc j =>
      have q' := bsel_kb (show bsel (Nat.blt j i) (k true) (k false) = true from q)
      rw [blt_dec] at q'
      rw [show decide (Int.negSucc i < Int.negSucc j) = decide (j < i) from dec_congr (by omega)]
      exact q'
/-- max(x, y), min(x, y) -/
def max2D (x y : D) (h : Hv) (k : KD) : Bool := intK x fun x => intK y fun y => ltZ x y fun b => bsel b (k y h) (k x h)
def min2D (x y : D) (h : Hv) (k : KD) : Bool := intK x fun x => intK y fun y => ltZ y x fun b => bsel b (k y h) (k x h)
/-- max(xs), min(xs) -/
def maxA (lo : Bool) (ds : List D) : D → (D → Bool) → Bool := @List.rec D (fun _ => D → (D → Bool) → Bool) (fun a k => k a) (fun x _ ih a k => intK x fun x => bsel lo (ltZ x a fun b => bsel b (ih x k) (ih a k)) (ltZ a x fun b => bsel b (ih x k) (ih a k))) ds
theorem maxA_true {lo : Bool} : ∀ {ds : List D} {vs : List V} {a : Int} {k : D → Bool}, RDs K m H n vs ds → maxA lo ds (dI a) k = true → ∃ (ns : List Int) (b : Int), vs = ns.map V.int ∧ b ∈ a :: ns ∧ (∀ y ∈ a :: ns, if lo = true then b ≤ y else y ≤ b) ∧ k (dI b) = true
  | [], _, a, k, r, q => by
    cases r
    refine ⟨[], a, rfl, List.mem_singleton_self a, fun y hy => ?_, q⟩
    rw [List.mem_singleton.mp hy]
    cases lo <;> exact Int.le_refl _
  | x :: ds, _, a, k, r, q => by
    cases r with
    | cons r1 r2 =>
      rename_i v vs
      obtain ⟨i, rfl, _, q2⟩ := intK_true r1 (show intK x (fun x => bsel lo (ltZ x (dI a) fun b => bsel b (maxA lo ds x k) (maxA lo ds (dI a) k)) (ltZ (dI a) x fun b => bsel b (maxA lo ds x k) (maxA lo ds (dI a) k))) = true from q)
      have fin : ∀ {c : Int}, maxA lo ds (dI c) k = true → (c = a ∨ c = i) → (if lo = true then c ≤ a ∧ c ≤ i else a ≤ c ∧ i ≤ c) → ∃ (ns : List Int) (b : Int), (V.int i :: vs) = ns.map V.int ∧ b ∈ a :: ns ∧ (∀ y ∈ a :: ns, if lo = true then b ≤ y else y ≤ b) ∧ k (dI b) = true := fun {c} z hc ho => by
        obtain ⟨ns, b, rfl, hb, hy, q3⟩ := maxA_true r2 z
        refine ⟨i :: ns, b, rfl, ?_, fun y hy' => ?_, q3⟩
        · rcases List.mem_cons.mp hb with e | e
          · rcases hc with e2 | e2
            · rw [e, e2]; exact List.mem_cons_self
            · rw [e, e2]; exact List.mem_cons_of_mem _ List.mem_cons_self
          · exact List.mem_cons_of_mem _ (List.mem_cons_of_mem _ e)
        · have bc := hy c List.mem_cons_self
          rcases List.mem_cons.mp hy' with e | e
          · rw [e]
            cases lo with
            | true => exact Int.le_trans bc ho.1
            | false => exact Int.le_trans ho.1 bc
          · rcases List.mem_cons.mp e with e | e
            · rw [e]
              cases lo with
              | true => exact Int.le_trans bc ho.2
              | false => exact Int.le_trans ho.2 bc
            · exact hy y (List.mem_cons_of_mem _ e)
      cases lo with
      | true =>
        have q3 := ltZ_true (show ltZ (dI i) (dI a) _ = true from q2)
        rcases bsel_true q3 with ⟨e, q4⟩ | ⟨e, q4⟩
        · exact fin q4 (.inr rfl) ⟨by have := of_decide_eq_true e; omega, Int.le_refl _⟩
        · exact fin q4 (.inl rfl) ⟨Int.le_refl _, by have := of_decide_eq_false e; omega⟩
      | false =>
        have q3 := ltZ_true (show ltZ (dI a) (dI i) _ = true from q2)
        rcases bsel_true q3 with ⟨e, q4⟩ | ⟨e, q4⟩
        · exact fin q4 (.inr rfl) ⟨by have := of_decide_eq_true e; omega, Int.le_refl _⟩
        · exact fin q4 (.inl rfl) ⟨Int.le_refl _, by have := of_decide_eq_false e; omega⟩
def mx1 (lo : Bool) (x : D) (h : Hv) (k : KD) : Bool := dc x nF nF pF lF (fun j => seqR j h fun ds => @List.rec D (fun _ => Bool) false (fun x r _ => intK x fun x => maxA lo r x fun d => k d h) ds) aF
theorem mx1_true {lo : Bool} {x : D} {vx : V} (w : W K m h H es σ) (rx : RD K m H h.n vx x) (q : mx1 lo x h k = true) : ∃ (a : Addr) (ns : List Int) (b : Int), vx = .ref a ∧ SqL K H a (ns.map V.int) ∧ 0 < ns.length ∧ b ∈ ns ∧ (∀ y ∈ ns, if lo = true then b ≤ y else y ≤ b) ∧ k (dI b) h = true := by
  cases rx with
  | ref j lj =>
    obtain ⟨ds, vs, u, _, _, q1, hh, rs⟩ := seqR_true w.hs (show seqR j h _ = true from q)
    cases rs with
    | nil => cases q1
    | cons r1 r2 =>
      obtain ⟨i, rfl, _, q2⟩ := intK_true r1 q1
      obtain ⟨ns, b, rfl, hb, hy, q3⟩ := maxA_true r2 q2
      exact ⟨_, i :: ns, b, rfl, SqL.of hh, Nat.succ_pos _, hb, hy, q3⟩
  | _ => cases q
theorem max1_ok : BOk K (ar1 (mx1 false)) (rMax K) := by
  intro m h H es σ vs ds k Q w r q p
  obtain ⟨x, dx, rfl, rx, q⟩ := ar1_true r q
  obtain ⟨a, ns, b, rfl, s, l, hb, hy, q2⟩ := mx1_true w rx q
  refine ⟨a, ns, rfl, s, l, fun m hm hmax => ?_⟩
  have e : m = b := Int.le_antisymm (hy m hm) (hmax b hb)
  subst e
  exact p.now w (rd_dI _) q2
theorem min1_ok : BOk K (ar1 (mx1 true)) (rMin K) := by
  intro m h H es σ vs ds k Q w r q p
  obtain ⟨x, dx, rfl, rx, q⟩ := ar1_true r q
  obtain ⟨a, ns, b, rfl, s, l, hb, hy, q2⟩ := mx1_true w rx q
  refine ⟨a, ns, rfl, s, l, fun m hm hmin => ?_⟩
  have e : m = b := Int.le_antisymm (hmin b hb) (hy m hm)
  subst e
  exact p.now w (rd_dI _) q2
theorem max2_ok : BOk K (ar2 max2D) (fun xs H Q => ∃ i j, xs = [.int i, .int j] ∧ Q (.int (if j > i then j else i)) H) := by
  intro m h H es σ vs ds k Q w r q p
  obtain ⟨x, y, dx, dy, rfl, rx, ry, q⟩ := ar2_true r q
  obtain ⟨i, rfl, _, q2⟩ := intK_true rx q
  obtain ⟨j, rfl, _, q3⟩ := intK_true ry q2
  have q4 := ltZ_true q3
  refine ⟨i, j, rfl, ?_⟩
  by_cases l : i < j
  · rw [decide_eq_true l] at q4
    rw [if_pos l]
    exact p.now w (rd_dI _) q4
  · rw [decide_eq_false l] at q4
    rw [if_neg l]
    exact p.now w (rd_dI _) q4
theorem min2_ok : BOk K (ar2 min2D) (fun xs H Q => ∃ i j, xs = [.int i, .int j] ∧ Q (.int (if j < i then j else i)) H) := by
  intro m h H es σ vs ds k Q w r q p
  obtain ⟨x, y, dx, dy, rfl, rx, ry, q⟩ := ar2_true r q
  obtain ⟨i, rfl, _, q2⟩ := intK_true rx q
  obtain ⟨j, rfl, _, q3⟩ := intK_true ry q2
  have q4 := ltZ_true q3
  refine ⟨i, j, rfl, ?_⟩
  by_cases l : j < i
  · rw [decide_eq_true l] at q4
    rw [if_pos l]
    exact p.now w (rd_dI _) q4
  · rw [decide_eq_false l] at q4
    rw [if_neg l]
    exact p.now w (rd_dI _) q4

/-! ### methods of lists -/
abbrev MM := Nat → List D → Hv → KD → Bool
def MOk (K : PySem.W.Frag) (f : MM) (r : V → List V → Hp → VK → Prop) : Prop := ∀ m h H es σ j vs ds k Q, W K m h H es σ → j < h.n → RDs K m H h.n vs ds → f j ds h k = true → Po K m h H es σ k Q → r (.ref (m j)) vs H Q
def eMt (f : MM) (o : ME) (a : MEs) : ME := fun es h k => o es h fun x h => dc x nF nF pF lF (fun j => seqR j h fun _ => a es h fun ds h => f j ds h k) aF
theorem bm_mono {f : MM} {r : V → List V → Hp → VK → Prop} {fo : ME} {fa : MEs} {L : Nat} (hr : MOk K f r) : ∀ σ H Q, rdE K (eMt f fo fa) σ H Q → tBM K "list" r (rdE K fo) (rdA K L fa) σ H Q := by
  rintro σ H Q ⟨m, h, es, k, w, q, p⟩
  refine ⟨m, h, es, _, w, q, fun x m1 h1 H1 dx e1 w1 r1 q1 => ?_⟩
  cases r1 with
  | ref j lj =>
    obtain ⟨ds, vs, u, _, _, q2, hh, rs⟩ := seqR_true w1.hs (show seqR j h1 _ = true from q1)
    refine ⟨.inl ⟨rfl, vs, SqL.of hh⟩, m1, h1, es, _, w1, q2, fun vs2 m2 h2 H2 ds2 e2 w2 r2 l2 q3 => ?_⟩
    rw [← e2.agr j lj]
    exact hr m2 h2 H2 es σ j vs2 ds2 k Q w2 (Nat.lt_of_lt_of_le lj e2.le) r2 q3 (p.mono (e1.trans e2))
  | _ => cases q1
/-- a change of the list, with a value -/
theorem mt_set {ds : List D} {vs : List V} {o : LO} (w : W K m h H es σ) (q : lk h.m j = some o) (rs : RDs K m H h.n vs ds) (p : Po K m h H es σ k Q) {v : V} {d : D} (rv : RD K m H h.n v d) (qq : k d ⟨h.n, put h.m j (.lst ds)⟩ = true) : Q v (upd H (m j) (.lst vs)) := by
  obtain ⟨w4, e4⟩ := OD.lst_new w.hs q rs
  exact p _ m _ _ d e4 (w.mono e4 w4) (rv.mono e4 w.hs) qq
def apD : MM := fun j ds h k => @List.rec D (fun _ => Bool) false (fun x r _ => @List.rec D (fun _ => Bool) (seqR j h fun ls => bsel (Nat.blt (lenL ls) 16777216) (k (.oth .non) ⟨h.n, put h.m j (.lst (catL ls [x]))⟩) false) (fun _ _ _ => false) r) ds
theorem ap_ok : MOk K apD rAppend := by
  intro m h H es σ j vs ds k Q w lj r q p
  cases r with
  | nil => cases q
  | cons rx r =>
    cases r with
    | nil =>
      obtain ⟨ls, us, u, q0, rfl, q1, hh, rs⟩ := seqR_true w.hs (show seqR j h _ = true from q)
      obtain ⟨lb, q2⟩ := bsel_tf q1
      rw [lenL_eq] at lb
      rw [catL_eq] at q2
      exact ⟨_, us, _, rfl, rfl, hh, by rw [rs.length, sizeLine_eq]; exact blt_lt lb, mt_set w q0 (rs.append (.cons rx .nil)) p .non q2⟩
    | cons _ _ => cases q
def exD : MM := fun j ds h k => @List.rec D (fun _ => Bool) false (fun x r _ => @List.rec D (fun _ => Bool) (dc x nF nF pF lF (fun i => seqR j h fun ls => seqR i h fun zs => bsel (fits ls zs) (k (.oth .non) ⟨h.n, put h.m j (.lst (catL ls zs))⟩) false) aF) (fun _ _ _ => false) r) ds
theorem ex_ok : MOk K exD rExtend := by
  intro m h H es σ j vs ds k Q w lj r q p
  cases r with
  | nil => cases q
  | cons rx r =>
    cases r with
    | nil =>
      cases rx with
      | ref i li =>
        obtain ⟨ls, us, u, q0, rfl, q1, hh, rs⟩ := seqR_true w.hs (show seqR j h _ = true from q)
        obtain ⟨zs, ws, u2, _, _, q2, hh2, rs2⟩ := seqR_true w.hs q1
        obtain ⟨lb, q3⟩ := bsel_tf q2
        have fl := fits_ok lb
        rw [catL_eq] at q3
        exact ⟨_, _, us, ws, rfl, rfl, hh, hh2, by rw [rs.length, rs2.length]; exact fl, mt_set w q0 (rs.append rs2) p .non q3⟩
      | _ => cases q
    | cons _ _ => cases q
def poD : MM := fun j ds h k => @List.rec D (fun _ => Bool) false (fun y r _ => @List.rec D (fun _ => Bool) (seqR j h fun ls => dc y
  (fun i => bsel (Nat.blt i L62) (nth ls i fun d => k d ⟨h.n, put h.m j (.lst (eraseL ls i))⟩) false)
  (fun i => fN (lenL ls) fun l => bsel (Nat.blt i L62) (bsel (Nat.blt i l) (fN (Nat.sub l (Nat.succ i)) fun z => nth ls z fun d => k d ⟨h.n, put h.m j (.lst (eraseL ls z))⟩) false) false) pF lF nF aF) (fun _ _ _ => false) r) ds
theorem RDs.get' : ∀ {vs : List V} {ds : List D} {i : Nat} {d : D}, RDs K m H n vs ds → ds[i]? = some d → ∃ v, vs[i]? = some v ∧ RD K m H n v d := fun r e => r.get e
theorem po_ok : MOk K poD rPopAt := by
  intro m h H es σ j vs ds k Q w lj r q p
  cases r with
  | nil => cases q
  | cons rx r =>
    cases r with
    | nil =>
      obtain ⟨ls, us, u, q0, rfl, q1, hh, rs⟩ := seqR_true w.hs (show seqR j h _ = true from q)
      have fin : ∀ {z : Nat} {i : Int}, -(2 ^ 63) ≤ i → i < 2 ^ 63 → seqIndex? i us.length = some z → (nth ls z fun d => k d ⟨h.n, put h.m j (.lst (eraseL ls z))⟩) = true → rPopAt (.ref (m j)) [.int i] H Q := fun {z i} b1 b2 si qq => by
        obtain ⟨d, e1, q4⟩ := nth_true qq
        obtain ⟨v, e2, rv⟩ := rs.get e1
        rw [eraseL_eq] at q4
        exact ⟨_, us, i, z, v, rfl, rfl, hh, b1, b2, si, e2, mt_set w q0 (rs.erase z) p rv q4⟩
      cases rx with
      | nat i =>
        obtain ⟨lb, q2⟩ := bsel_tf (show bsel (Nat.blt i L62) _ false = true from q1)
        have l' : i < 4611686018427387904 := blt_lt lb
        obtain ⟨d, e1, _⟩ := nth_true q2
        have li : i < ls.length := (List.getElem?_eq_some_iff.mp e1).1
        refine fin (z := i) (by simp only [Int.ofNat_eq_natCast]; omega) (by simp only [Int.ofNat_eq_natCast]; omega) ?_ q2
        rw [seqIndex_of (by simp only [Int.ofNat_eq_natCast]; omega) (by rw [rs.length]; simp only [Int.ofNat_eq_natCast]; omega)]
        rfl
      | neg i =>
        have q2 : fN (lenL ls) (fun l => bsel (Nat.blt i L62) (bsel (Nat.blt i l) (fN (Nat.sub l (Nat.succ i)) fun z => nth ls z fun d => k d ⟨h.n, put h.m j (.lst (eraseL ls z))⟩) false) false) = true := q1
        rw [fN_eq, lenL_eq] at q2
        obtain ⟨lb, q3⟩ := bsel_tf q2
        obtain ⟨lc, q4⟩ := bsel_tf q3
        rw [fN_eq] at q4
        have l' : i < 4611686018427387904 := blt_lt lb
        have lc' : i < ls.length := blt_lt lc
        refine fin (z := ls.length - (i + 1)) (by rw [Int.negSucc_eq]; omega) (by rw [Int.negSucc_eq]; omega) ?_ q4
        rw [seqIndex_neg (by omega) (by rw [rs.length]; omega)]
        congr 1
        rw [rs.length]
        omega
      | _ => cases q1
    | cons _ _ => cases q
/-- the first place of an equal one -/
def idxA (ds : List D) (x : D) : Nat → (Nat → Bool) → Bool := @List.rec D (fun _ => Nat → (Nat → Bool) → Bool) (fun _ _ => false) (fun y _ ih i k => bsel (eqD y x) (k i) (fN (Nat.succ i) fun i => ih i k)) ds
theorem idxA_true {x : D} {k : Nat → Bool} : ∀ {ds : List D} {i : Nat}, idxA ds x i k = true → ∃ j d, ds[j]? = some d ∧ eqD d x = true ∧ (∀ (t : Nat) (d' : D), t < j → ds[t]? = some d' → eqD d' x = false) ∧ k (i + j) = true
  | [], i, q => nomatch q
  | y :: ds, i, q => by
    rcases bsel_true (show bsel (eqD y x) (k i) (fN (Nat.succ i) fun i => idxA ds x i k) = true from q) with ⟨e, q2⟩ | ⟨e, q2⟩
    · exact ⟨0, y, rfl, e, fun t d' l => absurd l (Nat.not_lt_zero _), q2⟩
    · rw [fN_eq] at q2
      obtain ⟨j, d, e1, e2, e3, q3⟩ := idxA_true q2
      refine ⟨j + 1, d, by simpa using e1, e2, fun t d' l et => ?_, by rw [show i + (j + 1) = i.succ + j by omega]; exact q3⟩
      cases t with
      | zero => cases et; exact e
      | succ t => exact e3 t d' (by omega) (by simpa using et)
def ixM : MM := fun j ds h k => @List.rec D (fun _ => Bool) false (fun x r _ => @List.rec D (fun _ => Bool) (prK x (seqR j h fun ls => purL ls (idxA ls x 0 fun i => k (.nat i) h))) (fun _ _ _ => false) r) ds
theorem pys_get : ∀ {ds : List D} {i : Nat}, (pys ds)[i]? = (ds[i]?).map py
  | [], i => by rw [pys]; rfl
  | d :: ds, 0 => by rw [pys]; rfl
  | d :: ds, i + 1 => by rw [pys, List.getElem?_cons_succ, List.getElem?_cons_succ]; exact pys_get
theorem PdS.at : ∀ {ds : List D} {p i : Nat} {d : D}, PdS ds p → ds[i]? = some d → ∃ q, Pd d q
  | _, _, i, d, .nil, e => by simp at e
  | _, _, 0, d, .cons a _ _, e => by cases e; exact ⟨_, a⟩
  | _, _, i + 1, d, .cons _ _ s, e => PdS.at s (by simpa using e)
theorem ix_okM : MOk K ixM (rIndexD K) := by
  intro m h H es σ j vs ds k Q w lj r q p
  cases r with
  | nil => cases q
  | cons rx r =>
    cases r with
    | nil =>
      obtain ⟨q1, p1, e1, l1⟩ := prK_true (show prK _ _ = true from q)
      obtain ⟨ls, us, u, q0, rfl, q2, hh, rs⟩ := seqR_true w.hs q1
      obtain ⟨q3, p3⟩ := purL_true q2
      have a1 := rx.pd e1
      have a2 := rs.pd p3
      obtain ⟨i, d, e2, e3, e4, q4⟩ := idxA_true q3
      obtain ⟨qq, pd⟩ := a2.at e2
      rw [Nat.zero_add] at q4
      refine ⟨_, _, _, pys ls, i, py d, rfl, rfl, .lst (SqL.of hh) (rs.dp a2), rx.dp a1, shaped_list a2, shaped_of a1 l1, by rw [pys_get, e2]; rfl, by rw [← eqD_eqv pd a1]; exact e3, fun t z' lt ez => ?_, p.now w (.nat i) q4⟩
      rw [pys_get] at ez
      obtain ⟨d', ed, rfl⟩ := Option.map_eq_some_iff.mp ez
      obtain ⟨q', pd'⟩ := a2.at ed
      rw [← eqD_eqv pd' a1]
      exact e4 t d' lt ed
    | cons _ _ => cases q
end
end Pv
set_option Elab.async false
set_option linter.all false
set_option maxRecDepth 100000
set_option maxHeartbeats 4000000
/-! Chains of comparisons, constants, three names at once, subscripts that are targets. -/
noncomputable section
namespace Pv
open PySem PySem.Spec PyProof.Rows L2
section
variable {X : Cx} {K : PySem.W.Frag} {m m' : Nat → Addr} {h h' : Hv} {H H' : Hp} {es : List D} {σ : L2.St} {v : V} {d : D} {k : KD} {Q : VK} {e a b c : Expr} {pos : Pos} {j n : Nat} {κ : KS} {E : Ends}
/-! ### a op b op c -/
def t3 (g g' : D → D → Hv → (Bool → Hv → Bool) → Bool) (a b c : ME) : MT := fun es h k => a es h fun x h => b es h fun y h => g x y h fun z h => bsel z (c es h fun w h => g' y w h k) (k false h)
theorem chain_mono {g g' : D → D → Hv → (Bool → Hv → Bool) → Bool} {r r' : R2} {fa fb fc : ME} (hr : TpOk K g r) (hr' : TpOk K g' r') {σ : L2.St} {H : Hp} {Q : VK}
    (m : Nat → Addr) (h : Hv) (es : List D) (k : Bool → Hv → Bool) (w : W K m h H es σ) (q : t3 g g' fa fb fc es h k = true) (p : PoT K m h H es σ k fun b H => Q (.bl b) H) : tChain r r' (rdE K fa) (rdE K fb) (rdE K fc) σ H Q := by
  refine ⟨m, h, es, _, w, q, fun x m1 h1 H1 dx e1 w1 r1 q1 => ?_⟩
  refine ⟨m1, h1, es, _, w1, q1, fun y m2 h2 H2 dy e2 w2 r2 q2 => ?_⟩
  refine hr m2 h2 H2 es σ x y dx dy _ _ w2 (r1.mono e2 w1.hs) r2 q2 fun z m3 h3 H3 e3 w3 q3 => ⟨z, rfl, ?_⟩
  have e03 := (e1.trans e2).trans e3
  cases z with
  | false =>
    rw [if_neg Bool.false_ne_true]
    exact p false m3 h3 H3 e03 w3 q3
  | true =>
    rw [if_pos rfl]
    refine ⟨m3, h3, es, _, w3, q3, fun u m4 h4 H4 du e4 w4 r4 q4 => ?_⟩
    exact hr' m4 h4 H4 es σ y u dy du k Q w4 ((r2.mono e3 w2.hs).mono e4 w3.hs) r4 q4 fun c m5 h5 H5 e5 w5 q5 => p c m5 h5 H5 ((e03.trans e4).trans e5) w5 q5
theorem ok_tchain {op op' : CmpOp} {g g' : D → D → Hv → (Bool → Hv → Bool) → Bool} {r r' : R2} {fa fb fc : ME} (ho : OpR X (compareOp op) r) (hr : TpOk X.K g r) (ho' : OpR X (compareOp op') r') (hr' : TpOk X.K g' r') (ha : PE X a (rdE X.K fa)) (hb : PE X b (rdE X.K fb)) (hc : PE X c (rdE X.K fc)) (hm : lastMarks [op, op'] [b, c] = false) :
    PT X (.Compare a [op, op'] [b, c] pos) (rdT X.K (t3 g g' fa fb fc)) := by
  refine pt_mono (pt_chain ho ho' ha hb hc hm) ?_
  rintro σ H Q ⟨m, h, es, k, w, q, p⟩
  exact chain_mono (Q := fun x H' => ∃ k, x = .bl k ∧ Q k H') hr hr' m h es k w q fun c m1 h1 H1 e1 w1 q1 => ⟨c, rfl, p c m1 h1 H1 e1 w1 q1⟩
theorem ok_echain {op op' : CmpOp} {g g' : D → D → Hv → (Bool → Hv → Bool) → Bool} {r r' : R2} {fa fb fc : ME} (ho : OpR X (compareOp op) r) (hr : TpOk X.K g r) (ho' : OpR X (compareOp op') r') (hr' : TpOk X.K g' r') (ha : PE X a (rdE X.K fa)) (hb : PE X b (rdE X.K fb)) (hc : PE X c (rdE X.K fc)) (hm : lastMarks [op, op'] [b, c] = false) :
    PE X (.Compare a [op, op'] [b, c] pos) (rdE X.K (eT (t3 g g' fa fb fc))) := by
  refine pe_mono (pe_chain ho ho' ha hb hc hm) ?_
  rintro σ H Q ⟨m, h, es, k, w, q, p⟩
  exact chain_mono hr hr' m h es _ w q fun c m1 h1 H1 e1 w1 q1 => p _ m1 h1 H1 _ e1 w1 (.bl c) q1

/-! ### constants -/
theorem ok_nat {i kk : Nat} : PE X (.Constant (.int (Int.ofNat i)) kk pos) (rdE X.K (eCst (.nat i))) := ok_cst pe_int fun σ H Q f => f _ fun m n => .nat i
theorem ok_bl {b : Bool} {kk : Nat} : PE X (.Constant (.bool b) kk pos) (rdE X.K (eCst (.oth (.bl b)))) := ok_cst pe_bl fun σ H Q f => f _ fun m n => .bl b
theorem ok_non {kk : Nat} : PE X (.Constant .none kk pos) (rdE X.K (eCst (.oth .non))) := ok_cst pe_non fun σ H Q f => f _ fun m n => .non
/-- an int of the module -/
theorem ok_gint {x : Str} {d : D} {i : Int} (hd : d = dI i) (hg : Gl X x) (hm : ∃ t, X.mg x = some (.int i t)) (h1 : (x == ("__debug__" : Str)) = false) : PE X (.Name x pos) (rdE X.K (eCst d)) := by
  obtain ⟨t, hm⟩ := hm
  subst hd
  exact ok_cst (pe_glob (v := .int i) hg hm ⟨t, rfl⟩ h1) fun σ H Q f => f _ fun m n => rd_dI i
/-- a tuple of ints of the module -/
theorem ok_gtup {x : Str} {p : Nat} {ds : List D} {vs : List V} (hg : Gl X x) (hm : ∃ a o its n, X.mg x = some (.ref a) ∧ X.K.lookup a = some o ∧ o.cls = .type "tuple" ∧ o.data = .seq its n ∧ its.size ≤ sizeLine ∧ Vals vs its.toList) (hp : 0 < p) (hz : ∀ d ∈ ds, ∃ q, dpt d = some q ∧ q < p)
    (hr : ∀ m H n, RDs X.K m H n vs ds) (h1 : (x == ("__debug__" : Str)) = false) : PE X (.Name x pos) (rdE X.K (eCst (.tup p ds))) := by
  obtain ⟨a, o, its, n, hm, lk, c, dd, sz, vv⟩ := hm
  refine pe_mono (pe_glob (v := .ref a) hg hm rfl h1) ?_
  rintro σ H Q ⟨m, h, es, k, w, q, p2⟩
  exact p2.now w (.tup (.inr ⟨o, its, n, lk, c, dd, sz, vv⟩) (hr m H h.n) hp hz) q

/-! ### three names at once -/
theorem ok_spar3 {i j l : Nat} {x y z : Str} {px py pz pt : Pos} {kt k2 pt2} {fa : MEs} (hc : X.calm = true) (hN : X.N.Nodup) (hi : X.N[i]? = some x) (hj : X.N[j]? = some y) (hl : X.N[l]? = some z) (hij : i ≠ j) (hil : i ≠ l) (hjl : j ≠ l)
    (hx : X.env.scope.names.lookup x = some .local) (hy : X.env.scope.names.lookup y = some .local) (hz : X.env.scope.names.lookup z = some .local) (ha : PA X [a, b, c] (rdA X.K 3 fa))
    (hw : swappedStores [.Tuple [.Name x px, .Name y py, .Name z pz] kt pt] (.Tuple [a, b, c] k2 pt2) X.env = pure (some [x, y, z]))
    (hs : swapsWithSole [.Tuple [.Name x px, .Name y py, .Name z pz] kt pt] (.Tuple [a, b, c] k2 pt2) pos.line X.env = pure false) :
    PS X (.Assign [.Tuple [.Name x px, .Name y py, .Name z pz] kt pt] (.Tuple [a, b, c] k2 pt2) pos) (rdS X.K (sPar3 i j l fa)) := by
  refine ps_mono (ps_par3 hc hN hi hj hl hij hil hjl hx hy hz ha hw hs) ?_
  rintro E σ H ⟨m, h, es, κ, w, q, p⟩
  refine ⟨m, h, es, _, w, q, fun vs m1 h1 H1 ds e1 w1 r1 l1 q1 => ?_⟩
  cases r1 with
  | nil => cases q1
  | cons r r1 =>
    cases r1 with
    | nil => cases q1
    | cons r' r1 =>
      cases r1 with
      | nil => cases q1
      | cons r'' r1 =>
        cases r1 with
        | nil => exact ⟨_, _, _, rfl, p.nx m1 h1 H1 _ _ e1 (((w1.set i r).set j r').set l r'') q1⟩
        | cons _ _ => exact absurd l1 (by simp only [List.length_cons]; omega)

/-! ### targets that change the heap -/
abbrev MGz := D → List D → Hv → (List D → Hv → Bool) → Bool
abbrev MGzs := List D → List D → Hv → (List D → Hv → Bool) → Bool
def rdZ (K : PySem.W.Frag) (g : MGz) : TG := fun v σ H Q => ∃ m h es d k, W K m h H es σ ∧ RD K m H h.n v d ∧ g d es h k = true ∧ ∀ es' σ' m' h' H', Ext m h H m' h' H' → W K m' h' H' es' σ' → k es' h' = true → Q σ' H'
def rdZs (K : PySem.W.Frag) (g : MGzs) : TGs := fun vs σ H Q => ∃ m h es ds k, W K m h H es σ ∧ RDs K m H h.n vs ds ∧ g ds es h k = true ∧ ∀ es' σ' m' h' H', Ext m h H m' h' H' → W K m' h' H' es' σ' → k es' h' = true → Q σ' H'
variable {tg : Expr} {tgs : List Expr}
def zNm (i : Nat) : MGz := fun d es h k => k (sE es i d) h
theorem ok_znm {i : Nat} {x : Str} (hN : X.N.Nodup) (hi : X.N[i]? = some x) (hx : Loc X.env.scope x) (hf : X.fn x = true ∨ X.env.scope.names.lookup x = some .local) : PG X (.Name x pos) (rdZ X.K (zNm i)) := by
  refine pg_mono (pg_name hN hi hx hf) ?_
  rintro v σ H Q ⟨m, h, es, d, k, w, r, q, p⟩
  exact p _ _ m h H Ext.refl (w.set i r) q
def zNil : MGzs := fun ds es h k => @List.rec D (fun _ => Bool) (k es h) (fun _ _ _ => false) ds
def zCons (g : MGz) (r : MGzs) : MGzs := fun ds es h k => @List.rec D (fun _ => Bool) false (fun d ds _ => g d es h fun es h => r ds es h k) ds
theorem ok_znil : PGs X [] (rdZs X.K zNil) := by
  refine pgs_mono pgs_nil ?_
  rintro vs σ H Q ⟨m, h, es, ds, k, w, r, q, p⟩
  cases r with
  | nil => exact ⟨rfl, p es σ m h H Ext.refl w q⟩
  | cons _ _ => cases q
theorem ok_zcons {g : MGz} {gr : MGzs} (h1 : PG X tg (rdZ X.K g)) (h2 : PGs X tgs (rdZs X.K gr)) (hs : (assignEach (tg :: tgs) X.env).map (·.2) = assign tg X.env :: (assignEach tgs X.env).map (·.2)) : PGs X (tg :: tgs) (rdZs X.K (zCons g gr)) := by
  refine pgs_mono (pgs_cons h1 h2 hs) ?_
  rintro vs σ H Q ⟨m, h, es, ds, k, w, r, q, p⟩
  cases r with
  | nil => cases q
  | cons r rr => exact ⟨_, _, rfl, m, h, es, _, _, w, r, q, fun es1 σ1 m1 h1 H1 e1 w1 q1 => ⟨m1, h1, es1, _, _, w1, rr.mono e1 w.hs, q1, fun es2 σ2 m2 h2 H2 e2 w2 q2 => p es2 σ2 m2 h2 H2 (e1.trans e2) w2 q2⟩⟩
def zTp (L : Nat) (g : MGzs) : MGz := fun d es h k => seqOf d h fun ds => bsel (Nat.beq (lenL ds) L) (g ds es h k) false
theorem ok_ztp {g : MGzs} {kk : Nat} {L : Nat} (hc : X.calm = true) (hg : PGs X tgs (rdZs X.K g)) (hn : (assignEach tgs X.env).length = L) (hst : (assignEach tgs X.env).findIdx? (·.1) = none) : PG X (.Tuple tgs kk pos) (rdZ X.K (zTp L g)) := by
  refine pg_mono (pg_or (pg_tup hc hg hn hst) (pg_unl hc hg hn hst)) ?_
  rintro v σ H Q ⟨m, h, es, d, k, w, r, q, p⟩
  obtain ⟨a, ds, vs, rfl, q1, rs, cs⟩ := seqOf_true w.hs r q
  obtain ⟨lb, q2⟩ := bsel_tf q1
  rw [lenL_eq] at lb
  have len : vs.length = L := by rw [rs.length]; exact Nat.eq_of_beq_eq_true lb
  rcases cs with ⟨j, _, hh⟩ | ⟨_, s⟩
  · exact .inr ⟨a, vs, rfl, SqL.of hh, len, m, h, es, ds, k, w, rs, q2, p⟩
  · exact .inl ⟨a, vs, rfl, s, len, m, h, es, ds, k, w, rs, q2, p⟩
def zSub (o i : ME) : MGz := fun v es h k => o es h fun x h => i es h fun y h => dc x nF nF pF lF (fun j => objR j h
  (fun ds => setIx ds y v fun ds => k es ⟨h.n, put h.m j (.lst ds)⟩)
  (fun ks vs => kOk y (bsel (Nat.blt (lenL ks) 16777216) (dput ks y v vs fun ks vs => k es ⟨h.n, put h.m j (.dct ks vs)⟩) false))) aF
theorem ok_zsub {o i : Expr} {fo fi : ME} (hu : X.A.units + 65 < cLine) (ho : PE X o (rdE X.K fo)) (hi : PE X i (rdE X.K fi))
    (hasg : ∀ v, assign (.Subscript o i pos) X.env v = (do
      let ov ← holding [v] (eval o X.env)
      let iv ← holding [v, ov] (eval i X.env)
      standAt pos
      holding [v, ov, iv] (setItem ov iv v)
      release [v, ov, iv] [])) : PG X (.Subscript o i pos) (rdZ X.K (zSub fo fi)) := by
  refine pg_mono (pg_sub ho hi (set_any hu) hasg) ?_
  rintro v σ H Q ⟨m1, h1, es, d, k, w1, r1, q1, p⟩
  refine ⟨m1, h1, es, _, w1, q1, fun x m2 h2 H2 dx e2 w2 r2 q2 => ?_⟩
  refine ⟨m2, h2, es, _, w2, q2, fun y m3 h3 H3 dy e3 w3 r3 q3 => ?_⟩
  have rx := r2.mono e3 w2.hs
  have rv := (r1.mono e2 w1.hs).mono e3 w2.hs
  have e03 := e2.trans e3
  cases rx with
  | ref j lj =>
    rcases objR_true (show objR j h3 _ _ = true from q3) with q4 | q4
    · obtain ⟨ds, vs, u, q5, rfl, q6, hh, rs⟩ := seqR_true w3.hs q4
      obtain ⟨i, z, rfl, ez, q7⟩ := setIx_true r3 q6
      obtain ⟨w4, e4⟩ := OD.lst_new w3.hs q5 (rs.set rv z)
      refine .inl ⟨_, vs, i, z, rfl, rfl, hh, by rw [rs.length]; exact ez, ?_⟩
      exact p es σ m3 _ _ (e03.trans e4) (w3.mono e4 w4) q7
    · obtain ⟨ks, vs, q5, dk, q6⟩ := dctR_true w3.hs q4
      obtain ⟨ky, ty, q7⟩ := kOk_true q6
      obtain ⟨lb, q8⟩ := bsel_tf q7
      rw [lenL_eq] at lb
      obtain ⟨b, wd, xs, us, dd, kr, ey⟩ := dk_of (x := .ref (m3 j)) rfl dk r3 ky ty
      subst ey
      have ll : xs.length < sizeLine := by rw [kr.length, sizeLine_eq]; exact blt_lt lb
      refine .inr ⟨_, b, wd, xs, us, _, dd, ll, fun u ru => ?_⟩
      obtain ⟨us', ks', vs', kr', nd', q9⟩ := dput_true r3 ky ty rv ru kr dd.dc.nd q8
      obtain ⟨w4, e4⟩ := put_ok (wd := wd) w3.hs q5 dd.dc.sys (Nat.le_trans (storedH_length _ _ _ _) ll) nd' kr'
      exact p es σ m3 _ _ (e03.trans e4) (w3.mono e4 w4) q9
  | _ => cases q3
def sAsgZ (g : MGz) (e : ME) : MS := fun es h κ => e es h fun d h => g d es h fun es h => κ.nx es h
theorem ok_sasgz {g : MGz} {fa : ME} (ha : PE X e (rdE X.K fa)) (hg : PG X tg (rdZ X.K g)) (hs : swapsWithSole [tg] e pos.line X.env = pure false) (hw : swappedStores [tg] e X.env = pure none) (h1 : (assignEach [tg] X.env).map (·.2) = [assign tg X.env]) :
    PS X (.Assign [tg] e pos) (rdS X.K (sAsgZ g fa)) := by
  refine ps_mono (ps_asg ha hg hs hw h1) ?_
  rintro E σ H ⟨m, h, es, κ, w, q, p⟩
  exact ⟨m, h, es, _, w, q, fun v m1 h1 H1 d e1 w1 r1 q1 => ⟨m1, h1, es, d, _, w1, r1, q1, fun es' σ' m' h' H' e' w' q' => p.nx m' h' H' es' σ' (e1.trans e') w' q'⟩⟩
end
end Pv
set_option Elab.async false
set_option linter.all false
set_option maxRecDepth 100000
set_option maxHeartbeats 4000000
/-! The head's Hook, with one more look of one's own. -/
namespace Pv
open PySem PySem.Spec PyProof.Rows L2
abbrev AlX : Type := Bool × He.AlD
def obsX (fa : List He.Fa) (fn : List He.DefD) (ex : PySem.W.Frag → Bool) (K : PySem.W.Frag) : AlX := (ex K, He.obsD fa fn K)
def obsXG (n : Nat) (fa : List He.Fa) (fn : List He.DefD) (ex : PySem.W.Frag → Bool) (g : Addr → Option Obj) : AlX := obsX fa fn ex (He.frG g (He.asD g n))
def SaysX (fa : List He.Fa) (fn : List He.DefD) (ex : PySem.W.Frag → Bool) (K : PySem.W.Frag) : Prop := ex K = true ∧ He.SaysD fa fn K
def hookX (n : Nat) (fa : List He.Fa) (fn : List He.DefD) (ex : PySem.W.Frag → Bool) : PySem.W.Hook where
  α := AlX
  obs := fun s => obsXG n fa fn ex s.heap.get?
  val := fun _ => (true, He.valD fn)
  says := fun _ h => ∃ K : PySem.W.Frag, K.In h ∧ SaysX fa fn ex K
  of := fun _ _ e => ⟨_, He.frG_in, congrArg (fun z : AlX => z.1) e, congrArg (fun z : AlX => z.2) e⟩
  keeps := fun _ _ _ ⟨K, hK, c⟩ k => ⟨K, PySem.W.Frag.In.keeps hK k, c⟩
theorem obsXG_eq {n : Nat} {fa : List He.Fa} {fn : List He.DefD} {ex : PySem.W.Frag → Bool} {g : Addr → Option Obj} {s : Shared} (h : ∀ a, g a = s.heap.get? a) : obsXG n fa fn ex g = (hookX n fa fn ex).obs s := by
  have e : g = s.heap.get? := funext h
  rw [e] <;> rfl
/-- the module's name x is this built-in function -/
def bltB (K : PySem.W.Frag) (x : Str) (id : String) : Bool := decide (PySem.W.nsIn K mainGlobals x = some (some (.builtin id)))
theorem bltB_ok {K : PySem.W.Frag} {h : Heap} {mg : Str → Option Value} (X : K.In h) (G : h.Ns mainGlobals mg) {x : Str} {id : String} (c : bltB K x id = true) : mg x = some (.builtin id) := PySem.W.mg_of X G (of_decide_eq_true c)
/-- the module's name x is a tuple of these -/
def TupG (K : PySem.W.Frag) (mg : Str → Option Value) (x : Str) (vs : List V) : Prop := ∃ a o its n, mg x = some (.ref a) ∧ K.lookup a = some o ∧ o.cls = .type "tuple" ∧ o.data = .seq its n ∧ its.size ≤ sizeLine ∧ Vals vs its.toList
theorem tupG_of {K : PySem.W.Frag} {mg : Str → Option Value} {x : Str} {vs : List He.Dv} (e : mg x = some (.ref (He.ga K x))) (h : He.tupB K x vs = true) : TupG K mg x (vs.map (He.Dv.v K)) := by
  rcases He.tupB_ok h (fun _ => none) with (r | ⟨o, r⟩) | ⟨o, its, n, a, b, c, d, f⟩
  · cases r
  · cases r
  · exact ⟨_, o, its, n, e, a, b, c, d, f⟩
end Pv
set_option Elab.async false
set_option linter.all false
set_option maxRecDepth 100000
set_option maxHeartbeats 4000000
/-! Short forms, for printed walks. -/
noncomputable section
namespace Pv
open PySem PySem.Spec PyProof.Rows L2
section
variable {X : Cx} {K : PySem.W.Frag} {m m' : Nat → Addr} {h h' : Hv} {H H' : Hp} {es : List D} {σ : L2.St} {v : V} {d : D} {k : KD} {Q : VK} {e a b c : Expr} {pos p apos cpos tp : Pos} {j n : Nat} {κ : KS} {E : Ends} {x : Str} {rest : List Expr}
theorem hu_of {k : Nat} {A : Around} (r : Room k A) : A.units + 65 < cLine := by have := r.un; omega
/-! ### names -/
theorem vL (i : Nat) (hN : X.N[i]? = some x := by rfl) (hv : X.env.scope.names.lookup x = some .local := by rfl) (hd : (x == ("__debug__" : Str)) = false := by rfl) (hcd : (x == ("__classdict__" : Str)) = false := by rfl) : PE X (.Name x pos) (rdE X.K (eVar i)) := ok_var hN (.inl hv) hd hcd
theorem vC (i : Nat) (hN : X.N[i]? = some x := by rfl) (hv : X.env.scope.names.lookup x = some .cell := by rfl) (hd : (x == ("__debug__" : Str)) = false := by rfl) (hcd : (x == ("__classdict__" : Str)) = false := by rfl) : PE X (.Name x pos) (rdE X.K (eVar i)) := ok_var hN (.inr (.inl hv)) hd hcd
theorem vF (i : Nat) (hN : X.N[i]? = some x := by rfl) (hv : X.env.scope.names.lookup x = some .free := by rfl) (hd : (x == ("__debug__" : Str)) = false := by rfl) (hcd : (x == ("__classdict__" : Str)) = false := by rfl) : PE X (.Name x pos) (rdE X.K (eVar i)) := ok_var hN (.inr (.inr hv)) hd hcd
theorem cN {i kk : Nat} : PE X (.Constant (.int (Int.ofNat i)) kk pos) (rdE X.K (eCst (.nat i))) := ok_nat
theorem gI {d : D} {i : Int} (hm : ∃ t, X.mg x = some (.int i t)) (hd : d = dI i := by rfl) (hg : Gl X x := by rfl) (h1 : (x == ("__debug__" : Str)) = false := by rfl) : PE X (.Name x pos) (rdE X.K (eCst d)) := ok_gint hd hg hm h1
/-! ### arguments -/
theorem a0 : PA X [] (rdA X.K 0 aNil) := ok_anil
theorem aC {L : Nat} {fa : ME} {fr : MEs} {es : List Expr} (ha : PE X a (rdE X.K fa)) (hr : PA X es (rdA X.K L fr)) (hs : starEach (a :: es) X.env = (false, eval a X.env) :: starEach es X.env := by rfl) : PA X (a :: es) (rdA X.K (L + 1) (aCons fa fr)) := ok_acons ha hr hs
theorem tU {L : Nat} {fa : MEs} {es : List Expr} {x1 : Nat} (ha : PA X es (rdA X.K L fa)) (hl : L ≤ 1000 := by decide) : PE X (.Tuple es x1 pos) (rdE X.K (eTup fa)) := ok_tup ha (Nat.le_trans hl (by rw [sizeLine_eq]; decide))
theorem lS {L : Nat} {fa : MEs} {es : List Expr} (ha : PA X es (rdA X.K L fa)) (hl : L ≤ 1000 := by decide) : PE X (.List es pos) (rdE X.K (eLst fa)) := ok_lst ha (Nat.le_trans hl (by rw [sizeLine_eq]; decide))
/-! ### operators -/
theorem bAdd {fa fb : ME} (ha : PE X a (rdE X.K fa)) (hb : PE X b (rdE X.K fb)) : PE X (.BinOp a .Add b pos) (rdE X.K (o2 addD fa fb)) := ok_bin opr_add addD_ok ha hb
theorem bSub {fa fb : ME} (ha : PE X a (rdE X.K fa)) (hb : PE X b (rdE X.K fb)) : PE X (.BinOp a .Sub b pos) (rdE X.K (o2 subD fa fb)) := ok_bin op_sub subD_ok ha hb
theorem bMul {fa fb : ME} (ha : PE X a (rdE X.K fa)) (hb : PE X b (rdE X.K fb)) : PE X (.BinOp a .Mult b pos) (rdE X.K (o2 mulD fa fb)) := ok_bin opr_mul mulD_ok ha hb
theorem bDiv {fa fb : ME} (ha : PE X a (rdE X.K fa)) (hb : PE X b (rdE X.K fb)) : PE X (.BinOp a .FloorDiv b pos) (rdE X.K (o2 divD fa fb)) := ok_bin opr_div divD_ok ha hb
theorem bMod {fa fb : ME} (ha : PE X a (rdE X.K fa)) (hb : PE X b (rdE X.K fb)) : PE X (.BinOp a .Mod b pos) (rdE X.K (o2 modD fa fb)) := ok_bin op_modN modD_ok ha hb
theorem bShl {fa fb : ME} (ha : PE X a (rdE X.K fa)) (hb : PE X b (rdE X.K fb)) : PE X (.BinOp a .LShift b pos) (rdE X.K (o2 shlD fa fb)) := ok_bin op_shlW shlD_ok ha hb
theorem bShr {fa fb : ME} (ha : PE X a (rdE X.K fa)) (hb : PE X b (rdE X.K fb)) : PE X (.BinOp a .RShift b pos) (rdE X.K (o2 shrD fa fb)) := ok_bin op_shr shrD_ok ha hb
theorem uNeg {fa : ME} (ha : PE X a (rdE X.K fa)) : PE X (.UnaryOp .USub a pos) (rdE X.K (o1 negD fa)) := ok_neg ha
/-! ### comparisons -/
theorem eLt {fa fb : ME} (ha : PE X a (rdE X.K fa)) (hb : PE X b (rdE X.K fb)) (hm : behindInMarks .Lt b = false := by with_unfolding_all rfl) : PE X (.Compare a [.Lt] [b] pos) (rdE X.K (eT (t2 ltD fa fb))) := ok_ecmp op_lt ltD_ok ha hb hm
theorem eLe {fa fb : ME} (ha : PE X a (rdE X.K fa)) (hb : PE X b (rdE X.K fb)) (hm : behindInMarks .LtE b = false := by with_unfolding_all rfl) : PE X (.Compare a [.LtE] [b] pos) (rdE X.K (eT (t2 leD fa fb))) := ok_ecmp op_le leD_ok ha hb hm
theorem eGt {fa fb : ME} (ha : PE X a (rdE X.K fa)) (hb : PE X b (rdE X.K fb)) (hm : behindInMarks .Gt b = false := by with_unfolding_all rfl) : PE X (.Compare a [.Gt] [b] pos) (rdE X.K (eT (t2 gtD fa fb))) := ok_ecmp op_gt gtD_ok ha hb hm
theorem eGe {fa fb : ME} (ha : PE X a (rdE X.K fa)) (hb : PE X b (rdE X.K fb)) (hm : behindInMarks .GtE b = false := by with_unfolding_all rfl) : PE X (.Compare a [.GtE] [b] pos) (rdE X.K (eT (t2 geD fa fb))) := ok_ecmp op_ge geD_ok ha hb hm
theorem eEq {fa fb : ME} (hu : X.A.units + 65 < cLine) (ha : PE X a (rdE X.K fa)) (hb : PE X b (rdE X.K fb)) (hm : behindInMarks .Eq b = false := by with_unfolding_all rfl) : PE X (.Compare a [.Eq] [b] pos) (rdE X.K (eT (t2 eqH fa fb))) := ok_ecmp (op_eqD (by omega)) eqH_ok ha hb hm
theorem eNe {fa fb : ME} (hu : X.A.units + 65 < cLine) (ha : PE X a (rdE X.K fa)) (hb : PE X b (rdE X.K fb)) (hm : behindInMarks .NotEq b = false := by with_unfolding_all rfl) : PE X (.Compare a [.NotEq] [b] pos) (rdE X.K (eT (t2 neH fa fb))) := ok_ecmp (op_neD (by omega)) neH_ok ha hb hm
theorem eIn {fa fb : ME} (hu : X.A.units + 65 < cLine) (ha : PE X a (rdE X.K fa)) (hb : PE X b (rdE X.K fb)) (hm : behindInMarks .In b = false := by with_unfolding_all rfl) : PE X (.Compare a [.In] [b] pos) (rdE X.K (eT (t2 (inA false) fa fb))) := ok_ecmp (op_inA hu) inA_ok ha hb hm
theorem eNin {fa fb : ME} (hu : X.A.units + 65 < cLine) (ha : PE X a (rdE X.K fa)) (hb : PE X b (rdE X.K fb)) (hm : behindInMarks .NotIn b = false := by with_unfolding_all rfl) : PE X (.Compare a [.NotIn] [b] pos) (rdE X.K (eT (t2 (inA true) fa fb))) := ok_ecmp (op_ninA hu) inA_ok ha hb hm
theorem qLt {fa fb : ME} (ha : PE X a (rdE X.K fa)) (hb : PE X b (rdE X.K fb)) (hm : behindInMarks .Lt b = false := by with_unfolding_all rfl) : PT X (.Compare a [.Lt] [b] pos) (rdT X.K (t2 ltD fa fb)) := ok_tcmp op_lt ltD_ok ha hb hm
theorem qLe {fa fb : ME} (ha : PE X a (rdE X.K fa)) (hb : PE X b (rdE X.K fb)) (hm : behindInMarks .LtE b = false := by with_unfolding_all rfl) : PT X (.Compare a [.LtE] [b] pos) (rdT X.K (t2 leD fa fb)) := ok_tcmp op_le leD_ok ha hb hm
theorem qGt {fa fb : ME} (ha : PE X a (rdE X.K fa)) (hb : PE X b (rdE X.K fb)) (hm : behindInMarks .Gt b = false := by with_unfolding_all rfl) : PT X (.Compare a [.Gt] [b] pos) (rdT X.K (t2 gtD fa fb)) := ok_tcmp op_gt gtD_ok ha hb hm
theorem qGe {fa fb : ME} (ha : PE X a (rdE X.K fa)) (hb : PE X b (rdE X.K fb)) (hm : behindInMarks .GtE b = false := by with_unfolding_all rfl) : PT X (.Compare a [.GtE] [b] pos) (rdT X.K (t2 geD fa fb)) := ok_tcmp op_ge geD_ok ha hb hm
theorem qEq {fa fb : ME} (hu : X.A.units + 65 < cLine) (ha : PE X a (rdE X.K fa)) (hb : PE X b (rdE X.K fb)) (hm : behindInMarks .Eq b = false := by with_unfolding_all rfl) : PT X (.Compare a [.Eq] [b] pos) (rdT X.K (t2 eqH fa fb)) := ok_tcmp (op_eqD (by omega)) eqH_ok ha hb hm
theorem qNe {fa fb : ME} (hu : X.A.units + 65 < cLine) (ha : PE X a (rdE X.K fa)) (hb : PE X b (rdE X.K fb)) (hm : behindInMarks .NotEq b = false := by with_unfolding_all rfl) : PT X (.Compare a [.NotEq] [b] pos) (rdT X.K (t2 neH fa fb)) := ok_tcmp (op_neD (by omega)) neH_ok ha hb hm
theorem qIn {fa fb : ME} (hu : X.A.units + 65 < cLine) (ha : PE X a (rdE X.K fa)) (hb : PE X b (rdE X.K fb)) (hm : behindInMarks .In b = false := by with_unfolding_all rfl) : PT X (.Compare a [.In] [b] pos) (rdT X.K (t2 (inA false) fa fb)) := ok_tcmp (op_inA hu) inA_ok ha hb hm
theorem qNin {fa fb : ME} (hu : X.A.units + 65 < cLine) (ha : PE X a (rdE X.K fa)) (hb : PE X b (rdE X.K fb)) (hm : behindInMarks .NotIn b = false := by with_unfolding_all rfl) : PT X (.Compare a [.NotIn] [b] pos) (rdT X.K (t2 (inA true) fa fb)) := ok_tcmp (op_ninA hu) inA_ok ha hb hm
/-- the two orders that stand in chains -/
theorem eChLe {fa fb fc : ME} (ha : PE X a (rdE X.K fa)) (hb : PE X b (rdE X.K fb)) (hc : PE X c (rdE X.K fc)) (hm : lastMarks [.LtE, .LtE] [b, c] = false := by with_unfolding_all rfl) : PE X (.Compare a [.LtE, .LtE] [b, c] pos) (rdE X.K (eT (t3 leD leD fa fb fc))) := ok_echain op_le leD_ok op_le leD_ok ha hb hc hm
theorem qChLe {fa fb fc : ME} (ha : PE X a (rdE X.K fa)) (hb : PE X b (rdE X.K fb)) (hc : PE X c (rdE X.K fc)) (hm : lastMarks [.LtE, .LtE] [b, c] = false := by with_unfolding_all rfl) : PT X (.Compare a [.LtE, .LtE] [b, c] pos) (rdT X.K (t3 leD leD fa fb fc)) := ok_tchain op_le leD_ok op_le leD_ok ha hb hc hm
theorem eChLt {fa fb fc : ME} (ha : PE X a (rdE X.K fa)) (hb : PE X b (rdE X.K fb)) (hc : PE X c (rdE X.K fc)) (hm : lastMarks [.Lt, .Lt] [b, c] = false := by with_unfolding_all rfl) : PE X (.Compare a [.Lt, .Lt] [b, c] pos) (rdE X.K (eT (t3 ltD ltD fa fb fc))) := ok_echain op_lt ltD_ok op_lt ltD_ok ha hb hc hm
theorem qChLt {fa fb fc : ME} (ha : PE X a (rdE X.K fa)) (hb : PE X b (rdE X.K fb)) (hc : PE X c (rdE X.K fc)) (hm : lastMarks [.Lt, .Lt] [b, c] = false := by with_unfolding_all rfl) : PT X (.Compare a [.Lt, .Lt] [b, c] pos) (rdT X.K (t3 ltD ltD fa fb fc)) := ok_tchain op_lt ltD_ok op_lt ltD_ok ha hb hc hm
theorem eChLeLt {fa fb fc : ME} (ha : PE X a (rdE X.K fa)) (hb : PE X b (rdE X.K fb)) (hc : PE X c (rdE X.K fc)) (hm : lastMarks [.LtE, .Lt] [b, c] = false := by with_unfolding_all rfl) : PE X (.Compare a [.LtE, .Lt] [b, c] pos) (rdE X.K (eT (t3 leD ltD fa fb fc))) := ok_echain op_le leD_ok op_lt ltD_ok ha hb hc hm
theorem qChLeLt {fa fb fc : ME} (ha : PE X a (rdE X.K fa)) (hb : PE X b (rdE X.K fb)) (hc : PE X c (rdE X.K fc)) (hm : lastMarks [.LtE, .Lt] [b, c] = false := by with_unfolding_all rfl) : PT X (.Compare a [.LtE, .Lt] [b, c] pos) (rdT X.K (t3 leD ltD fa fb fc)) := ok_tchain op_le leD_ok op_lt ltD_ok ha hb hc hm
/-! ### tests -/
theorem pw_mono2 {t t' : TT} (h : PW X e t) (hm : ∀ σ H Q, t' σ H Q → t σ H Q) : PW X e t' := ⟨fun wh pins s σ H Q I w => h.run wh pins s σ H Q I (hm σ H Q w)⟩
theorem wA1 {fa : MT} (ha : PT X a (rdT X.K fa)) : PW X (.BoolOp .And [a] pos) (rdT X.K fa) := pw_and1 ha
theorem wO1 {fa : MT} (ha : PT X a (rdT X.K fa)) : PW X (.BoolOp .Or [a] pos) (rdT X.K fa) := pw_or1 ha
theorem wA {fa fb : MT} (ha : PT X a (rdT X.K fa)) (hb : PW X (.BoolOp .And (b :: rest) pos) (rdT X.K fb)) : PW X (.BoolOp .And (a :: b :: rest) pos) (rdT X.K (tAnd fa fb)) := pw_mono2 (pw_and ha hb) and_mono
theorem wO {fa fb : MT} (ha : PT X a (rdT X.K fa)) (hb : PW X (.BoolOp .Or (b :: rest) pos) (rdT X.K fb)) : PW X (.BoolOp .Or (a :: b :: rest) pos) (rdT X.K (tOr fa fb)) := pw_mono2 (pw_or ha hb) or_mono
theorem wT {t : TT} (h : PW X e t) : PT X e t := ⟨fun pins s σ H Q I w => h.run _ pins s σ H Q I w⟩
theorem qNot {fa : MT} (ha : PT X a (rdT X.K fa)) : PT X (.UnaryOp .Not a pos) (rdT X.K (tNot fa)) := ok_tNot ha
theorem qE {fa : ME} (ha : PE X a (rdE X.K fa)) (he : ∀ whole, isTrue a X.env whole = (do let v ← whole; standAt a.pos; holding [v] (truthy v)) := by intro _; rfl) : PT X a (rdT X.K (tE fa)) := ok_tE ha he
/-! ### built-ins -/
theorem b1 {g : D → Hv → KD → Bool} {r : List V → Hp → VK → Prop} {id : String} {fa : ME} (hc : CallR X (.builtin id) r) (hr : BOk X.K (ar1 g) r) (hv : bootBuiltins x = some (.builtin id)) (hm : X.mg x = none) (ha : PE X a (rdE X.K fa))
    (hg : Gl X x := by rfl) (hn : x ≠ "__name__" := by decide) (hdb : (x == ("__debug__" : Str)) = false := by decide) (he : starEach [a] X.env = (false, eval a X.env) :: starEach [] X.env := by rfl) (hpl : (backTo pos (starEach [] X.env)).any (·.1) = false := by rfl) : PE X (.Call (.Name x p) [a] [] pos) (rdE X.K (o1 g fa)) := by
  refine pe_mono (pe_callB hc hg hm hv (pa_cons ha pa_nil he) hn hdb he hpl) ?_
  rintro σ H Q ⟨m, h, es, k, w, q, p⟩
  exact ⟨m, h, es, _, w, q, fun x m1 h1 H1 dx e1 w1 r1 q1 => hr m1 h1 H1 es σ [x] [dx] k Q w1 (.cons r1 .nil) q1 (p.mono e1)⟩
theorem t1 {g : D → Hv → KD → Bool} {r : List V → Hp → VK → Prop} {T : String} {fa : ME} (hc : CallR X (.type T) r) (hr : BOk X.K (ar1 g) r) (hv : bootBuiltins x = some (.type T)) (hm : X.mg x = none) (ha : PE X a (rdE X.K fa))
    (hg : Gl X x := by rfl) (hn : x ≠ "__name__" := by decide) (hdb : (x == ("__debug__" : Str)) = false := by decide) (he : starEach [a] X.env = (false, eval a X.env) :: starEach [] X.env := by rfl) (hpl : (backTo pos (starEach [] X.env)).any (·.1) = false := by rfl) : PE X (.Call (.Name x p) [a] [] pos) (rdE X.K (o1 g fa)) := by
  refine pe_mono (pe_callTy hc hg hm hv (pa_cons ha pa_nil he) hn hdb he hpl) ?_
  rintro σ H Q ⟨m, h, es, k, w, q, p⟩
  exact ⟨m, h, es, _, w, q, fun x m1 h1 H1 dx e1 w1 r1 q1 => hr m1 h1 H1 es σ [x] [dx] k Q w1 (.cons r1 .nil) q1 (p.mono e1)⟩
theorem two_args {g : D → D → Hv → KD → Bool} {r : List V → Hp → VK → Prop} {fa fb : ME} (hr : BOk K (ar2 g) r) : ∀ σ H Q, rdE K (o2 g fa fb) σ H Q → tCB r (tCons (rdE K fa) (tCons (rdE K fb) tNil)) σ H Q := by
  rintro σ H Q ⟨m, h, es, k, w, q, p⟩
  refine ⟨m, h, es, _, w, q, fun x m1 h1 H1 dx e1 w1 r1 q1 => ?_⟩
  exact ⟨m1, h1, es, _, w1, q1, fun y m2 h2 H2 dy e2 w2 r2 q2 => hr m2 h2 H2 es σ [x, y] [dx, dy] k Q w2 (.cons (r1.mono e2 w1.hs) (.cons r2 .nil)) q2 (p.mono (e1.trans e2))⟩
theorem b2 {g : D → D → Hv → KD → Bool} {r : List V → Hp → VK → Prop} {id : String} {fa fb : ME} (hc : CallR X (.builtin id) r) (hr : BOk X.K (ar2 g) r) (hv : bootBuiltins x = some (.builtin id)) (hm : X.mg x = none) (ha : PE X a (rdE X.K fa)) (hb : PE X b (rdE X.K fb))
    (hg : Gl X x := by rfl) (hn : x ≠ "__name__" := by decide) (hdb : (x == ("__debug__" : Str)) = false := by decide) (he : starEach [a, b] X.env = (false, eval a X.env) :: starEach [b] X.env := by rfl) (he2 : starEach [b] X.env = (false, eval b X.env) :: starEach [] X.env := by rfl) (hpl : (backTo pos (starEach [b] X.env)).any (·.1) = false := by rfl) : PE X (.Call (.Name x p) [a, b] [] pos) (rdE X.K (o2 g fa fb)) :=
  pe_mono (pe_callB hc hg hm hv (pa_cons ha (pa_cons hb pa_nil he2) he) hn hdb he hpl) (two_args hr)
/-- a module's name for a built-in function -/
theorem f2 {g : D → D → Hv → KD → Bool} {r : List V → Hp → VK → Prop} {id : String} {fa fb : ME} (hc : CallR X (.builtin id) r) (hr : BOk X.K (ar2 g) r) (hm : X.mg x = some (.builtin id)) (ha : PE X a (rdE X.K fa)) (hb : PE X b (rdE X.K fb))
    (hg : Gl X x := by rfl) (hdb : (x == ("__debug__" : Str)) = false := by decide) (he : starEach [a, b] X.env = (false, eval a X.env) :: starEach [b] X.env := by rfl) (he2 : starEach [b] X.env = (false, eval b X.env) :: starEach [] X.env := by rfl) (hpl : (backTo pos (starEach [b] X.env)).any (·.1) = false := by rfl) : PE X (.Call (.Name x p) [a, b] [] pos) (rdE X.K (o2 g fa fb)) :=
  pe_mono (pe_callBfun hc hg hm (pa_cons ha (pa_cons hb pa_nil he2) he) hdb he hpl) (two_args hr)
/-- a built-in class, as a value -/
theorem kT {T : String} (hm : X.mg x = none) (hv : bootBuiltins x = some (.type T)) (hg : Gl X x := by rfl) (hn : x ≠ "__name__" := by decide) (hd : (x == ("__debug__" : Str)) = false := by decide) : PE X (.Name x pos) (tC (.ty T)) := pe_bltn hg hm hv rfl hn hd
theorem is1 {f : Fl} {T : String} {fa : ME} (ht : IsT T f) (hm : X.mg "isinstance" = none) (ha : PE X a (rdE X.K fa)) (hT : PE X c (tC (.ty T))) (hg : Gl X "isinstance" := by rfl)
    (h1 : starEach [a, c] X.env = (false, eval a X.env) :: starEach [c] X.env := by rfl) (h2 : starEach [c] X.env = [(false, eval c X.env)] := by rfl) (hpl : (backTo pos (starEach [c] X.env)).any (·.1) = false := by rfl) :
    PE X (.Call (.Name "isinstance" p) [a, c] [] pos) (rdE X.K (eIs f fa)) := ok_isi ht hg hm ha hT h1 h2 hpl
theorem is2 {f g : Fl} {T U : String} {fa : ME} {kk : Nat} {c1 c2 : Expr} (ht : IsT T f) (hu : IsT U g) (hm : X.mg "isinstance" = none) (ha : PE X a (rdE X.K fa)) (hT : PE X c1 (tC (.ty T))) (hU : PE X c2 (tC (.ty U))) (hg : Gl X "isinstance" := by rfl)
    (h1 : starEach [a, .Tuple [c1, c2] kk tp] X.env = (false, eval a X.env) :: starEach [.Tuple [c1, c2] kk tp] X.env := by rfl) (h2 : starEach [.Tuple [c1, c2] kk tp] X.env = [(false, eval (.Tuple [c1, c2] kk tp) X.env)] := by rfl) (hpl : (backTo pos (starEach [.Tuple [c1, c2] kk tp] X.env)).any (·.1) = false := by rfl)
    (h3 : starEach [c1, c2] X.env = (false, eval c1 X.env) :: starEach [c2] X.env := by rfl) (h4 : starEach [c2] X.env = [(false, eval c2 X.env)] := by rfl) :
    PE X (.Call (.Name "isinstance" p) [a, .Tuple [c1, c2] kk tp] [] pos) (rdE X.K (eIs (flO f g) fa)) := ok_isi2 ht hu hg hm ha hT hU h1 h2 hpl h3 h4
theorem qIs {f : Fl} {fa : ME} (ha : PE X a (rdE X.K (eIs f fa))) (he : ∀ whole, isTrue a X.env whole = (do let v ← whole; standAt a.pos; holding [v] (truthy v)) := by intro _; rfl) : PT X a (rdT X.K (tIs f fa)) := ok_isT ha he
/-! ### calls of defs -/
theorem kL {c : MF} {L kc kj : Nat} {fa : MEs} {es : List Expr} (C : Cl X.prog X.w X.K X.mg X.base kc x L c) (hr : Room kj X.A) (ha : PA X (e :: es) (rdA X.K L fa)) (hk : kc ≤ kj := by decide) (hg : Gl X x := by rfl)
    (hdb : (x == ("__debug__" : Str)) = false := by decide) (he : starEach (e :: es) X.env = (false, eval e X.env) :: starEach es X.env := by rfl) (hpl : (backTo pos (starEach es X.env)).any (·.1) = false := by rfl) :
    PE X (.Call (.Name x p) (e :: es) [] pos) (rdE X.K (eCall c fa)) := ok_call C hr hk hg ha hdb he hpl
theorem k0 {c : MF} {kc kj : Nat} (C : Cl X.prog X.w X.K X.mg X.base kc x 0 c) (hr : Room kj X.A) (hk : kc ≤ kj := by decide) (hg : Gl X x := by rfl) (hdb : (x == ("__debug__" : Str)) = false := by decide) :
    PE X (.Call (.Name x p) [] [] pos) (rdE X.K (eCall c aNil)) := ok_call0 C hr hk hg hdb
/-! ### subscripts, slices -/
theorem ix {fa fb : ME} (hu : X.A.units + 65 < cLine) (ha : PE X a (rdE X.K fa)) (hb : PE X b (rdE X.K fb)) (hs : PlainIx b := by intro _ _; rfl) : PE X (.Subscript a b pos) (rdE X.K (o2 ixG fa fb)) := ok_ixg hu ha hb hs
theorem s0 : POk X none oNone := ok_oNone
theorem s1 {fa : ME} (ha : PE X a (rdE X.K fa)) : POk X (some a) (oSome fa) := ok_oSome ha
theorem sl {lo hi : Option Expr} {fa : ME} {fl fh : MO} (ha : PE X a (rdE X.K fa)) (hl : POk X lo fl) (hh : POk X hi fh) : PE X (.Subscript a (.Slice lo hi none p) pos) (rdE X.K (eSl fa fl fh)) := ok_sl ha hl hh
/-! ### methods -/
theorem mT {f : MM} {r : V → List V → Hp → VK → Prop} {id : String} {name : Str} {fo : ME} {fa : MEs} {L : Nat} {o : Expr} {es : List Expr} (hmt : MtR X id r) (hr : MOk X.K f r) (slot : Slot "list" name id) (hty : typeOf (.builtin id) = pure (.type "method_descriptor")) (ho : PE X o (rdE X.K fo)) (ha : PA X (e :: es) (rdA X.K L fa))
    (hbase : attributeBase o name X.env (eval o X.env) = eval o X.env := by rfl)
    (hfew : ((backTo cpos (starEach (e :: es) X.env)).all (fun x => !x.1) && (backToKw cpos (keywordEach [] X.env)).all (fun x => x.1.isSome)
      && decide ((e :: es).length + ([] : List Keyword).length + (if ([] : List Keyword).isEmpty then 0 else 1) < 30)) = true := by rfl)
    (hline : (apos.endLine == cpos.line) = true := by rfl) (hs : starEach (e :: es) X.env = (false, eval e X.env) :: starEach es X.env := by rfl) (hplain : (backTo cpos (starEach es X.env)).any (·.1) = false := by rfl) :
    PE X (.Call (.Attribute o name apos) (e :: es) [] cpos) (rdE X.K (eMt f fo fa)) := pe_mono (pe_bm PySem.F.plainAttrs_list slot hty hmt ho ha hbase hfew hline hs hplain) (bm_mono hr)
theorem mGet {o : Expr} {fo fi : ME} (hu : X.A.units + 65 < cLine) (ho : PE X o (rdE X.K fo)) (hi : PE X a (rdE X.K fi)) (mm : M1 X o "get" apos a cpos := by exact ⟨rfl, rfl, rfl, rfl⟩) : PE X (.Call (.Attribute o "get" apos) [a] [] cpos) (rdE X.K (eGet fo fi)) := ok_get hu ho hi mm
/-! ### statements -/
variable {st : Stmt} {srest : List Stmt}
theorem S0 : PSs X [] (rdS X.K sNil) := ok_snil
theorem SC {fa fb : MS} (ha : PS X st (rdS X.K fa)) (hb : PSs X srest (rdS X.K fb)) : PSs X (st :: srest) (rdS X.K (sSeq fa fb)) := ok_sseq ha hb
theorem SX : PS X st (rdS X.K sNever) := ok_snever
theorem sR {fa : ME} (ha : PE X e (rdE X.K fa)) : PS X (.Return (some e) pos) (rdS X.K (sRet fa)) := ok_sret ha
theorem sEx {fa : ME} (ha : PE X e (rdE X.K fa)) (hs : swapsWith e none pos.line X.env = pure false := by rfl) : PS X (.Expr e pos) (rdS X.K (sExp fa)) := ok_sexp ha hs
theorem sI {A B : List Stmt} {ft : MT} {fa fb : MS} (hc : PT X c (rdT X.K ft)) (ha : PSs X A (rdS X.K fa)) (hb : PSs X B (rdS X.K fb)) : PS X (.If c A B pos) (rdS X.K (sIf ft fa fb)) := ok_sif hc ha hb
theorem sV (i : Nat) {fa : ME} (hN : X.N.Nodup) (ha : PE X e (rdE X.K fa)) (hi : X.N[i]? = some x := by rfl) (hx : X.env.scope.names.lookup x = some .local := by rfl) (hs : swapsWith e (some (.Name x p)) pos.line X.env = pure false := by rfl) (hf : X.fn x = true := by rfl) :
    PS X (.Assign [.Name x p] e pos) (rdS X.K (sSet i fa)) := ok_sset hN hi (.inl hx) ha hs (.inl hf)
theorem sW (i : Nat) {fa : ME} (hN : X.N.Nodup) (ha : PE X e (rdE X.K fa)) (hi : X.N[i]? = some x := by rfl) (hx : X.env.scope.names.lookup x = some .cell := by rfl) (hs : swapsWith e (some (.Name x p)) pos.line X.env = pure false := by rfl) (hf : X.fn x = true := by rfl) :
    PS X (.Assign [.Name x p] e pos) (rdS X.K (sSet i fa)) := ok_sset hN hi (.inr hx) ha hs (.inl hf)
theorem sU {o i : Expr} {fe fo fi : ME} (hu : X.A.units + 65 < cLine) (he : PE X e (rdE X.K fe)) (ho : PE X o (rdE X.K fo)) (hi : PE X i (rdE X.K fi))
    (hasg : ∀ v, assign (.Subscript o i tp) X.env v = (do
      let ov ← holding [v] (eval o X.env)
      let iv ← holding [v, ov] (eval i X.env)
      standAt tp
      holding [v, ov, iv] (setItem ov iv v)
      release [v, ov, iv] []) := by intro _; rfl)
    (hs : swapsWithSole [.Subscript o i tp] e pos.line X.env = pure false := by rfl) (hw : swappedStores [.Subscript o i tp] e X.env = pure none := by rfl) (h1 : (assignEach [.Subscript o i tp] X.env).map (·.2) = [assign (.Subscript o i tp) X.env] := by rfl) :
    PS X (.Assign [.Subscript o i tp] e pos) (rdS X.K (sSubG fe fo fi)) := ok_ssubg hu he ho hi hasg hs hw h1
theorem sP2 (i j : Nat) {x y : Str} {px py pt : Pos} {kt k2 pt2} {fa : MEs} (hN : X.N.Nodup) (ha : PA X [a, b] (rdA X.K 2 fa)) (hc : X.calm = true := by rfl) (hi : X.N[i]? = some x := by rfl) (hj : X.N[j]? = some y := by rfl) (hij : i ≠ j := by decide)
    (hx : X.env.scope.names.lookup x = some .local := by rfl) (hy : X.env.scope.names.lookup y = some .local := by rfl)
    (hw : swappedStores [.Tuple [.Name x px, .Name y py] kt pt] (.Tuple [a, b] k2 pt2) X.env = pure (some [x, y]) := by rfl)
    (hs : swapsWithSole [.Tuple [.Name x px, .Name y py] kt pt] (.Tuple [a, b] k2 pt2) pos.line X.env = pure false := by rfl) :
    PS X (.Assign [.Tuple [.Name x px, .Name y py] kt pt] (.Tuple [a, b] k2 pt2) pos) (rdS X.K (sPar2 i j fa)) := ok_spar2 hc hN hi hj hij hx hy ha hw hs
theorem sP3 (i j l : Nat) {x y z : Str} {px py pz pt : Pos} {kt k2 pt2} {fa : MEs} (hN : X.N.Nodup) (ha : PA X [a, b, c] (rdA X.K 3 fa)) (hc : X.calm = true := by rfl) (hi : X.N[i]? = some x := by rfl) (hj : X.N[j]? = some y := by rfl) (hl : X.N[l]? = some z := by rfl) (hij : i ≠ j := by decide) (hil : i ≠ l := by decide) (hjl : j ≠ l := by decide)
    (hx : X.env.scope.names.lookup x = some .local := by rfl) (hy : X.env.scope.names.lookup y = some .local := by rfl) (hz : X.env.scope.names.lookup z = some .local := by rfl)
    (hw : swappedStores [.Tuple [.Name x px, .Name y py, .Name z pz] kt pt] (.Tuple [a, b, c] k2 pt2) X.env = pure (some [x, y, z]) := by rfl)
    (hs : swapsWithSole [.Tuple [.Name x px, .Name y py, .Name z pz] kt pt] (.Tuple [a, b, c] k2 pt2) pos.line X.env = pure false := by rfl) :
    PS X (.Assign [.Tuple [.Name x px, .Name y py, .Name z pz] kt pt] (.Tuple [a, b, c] k2 pt2) pos) (rdS X.K (sPar3 i j l fa)) := ok_spar3 hc hN hi hj hl hij hil hjl hx hy hz ha hw hs
/-! ### targets -/
variable {tg : Expr} {tgs : List Expr}
theorem gL (i : Nat) (hN : X.N.Nodup) (hi : X.N[i]? = some x := by rfl) (hx : X.env.scope.names.lookup x = some .local := by rfl) : PG X (.Name x pos) (rdG X.K (gNm i) [i]) := ok_gnm hN hi (.inl hx) (.inr hx)
theorem gC (i : Nat) (hN : X.N.Nodup) (hi : X.N[i]? = some x := by rfl) (hx : X.env.scope.names.lookup x = some .cell := by rfl) (hf : X.fn x = true := by rfl) : PG X (.Name x pos) (rdG X.K (gNm i) [i]) := ok_gnm hN hi (.inr hx) (.inl hf)
theorem g0 : PGs X [] (rdGs X.K gsNil []) := ok_gsnil
theorem gS {g : MGh} {gr : MGs} {S T : List Nat} (h1 : PG X tg (rdG X.K g S)) (h2 : PGs X tgs (rdGs X.K gr T)) (hs : (assignEach (tg :: tgs) X.env).map (·.2) = assign tg X.env :: (assignEach tgs X.env).map (·.2) := by rfl) : PGs X (tg :: tgs) (rdGs X.K (gsCons g gr) (S ++ T)) := ok_gscons h1 h2 hs
/-- a tuple of a known length, as a target -/
def gTl (L : Nat) (g : MGs) : MGh := fun d es h k => seqOf d h fun ds => bsel (Nat.beq (lenL ds) L) (g ds es h k) false
theorem gT {g : MGs} {S : List Nat} {kk : Nat} {L : Nat} (hg : PGs X tgs (rdGs X.K g S)) (hc : X.calm = true := by rfl) (hn : (assignEach tgs X.env).length = L := by rfl) (hst : (assignEach tgs X.env).findIdx? (·.1) = none := by rfl) : PG X (.Tuple tgs kk pos) (rdG X.K (gTl L g) S) := by
  refine pg_mono (pg_or (pg_tup hc hg hn hst) (pg_unl hc hg hn hst)) ?_
  rintro v σ H Q ⟨m, h, es, d, k, w, r, q, p⟩
  obtain ⟨a, ds, vs, rfl, q1, rs, cs⟩ := seqOf_true w.hs r q
  obtain ⟨lb, q2⟩ := bsel_tf q1
  rw [lenL_eq] at lb
  have len : vs.length = L := by rw [rs.length]; exact Nat.eq_of_beq_eq_true lb
  rcases cs with ⟨j, _, hh⟩ | ⟨_, s⟩
  · exact .inr ⟨a, vs, rfl, SqL.of hh, len, m, h, es, ds, k, w, rs, q2, p⟩
  · exact .inl ⟨a, vs, rfl, s, len, m, h, es, ds, k, w, rs, q2, p⟩
theorem sA {g : MGh} {S : List Nat} {fa : ME} (ha : PE X e (rdE X.K fa)) (hg : PG X tg (rdG X.K g S)) (hs : swapsWithSole [tg] e pos.line X.env = pure false := by rfl) (hw : swappedStores [tg] e X.env = pure none := by rfl) (h1 : (assignEach [tg] X.env).map (·.2) = [assign tg X.env] := by rfl) :
    PS X (.Assign [tg] e pos) (rdS X.K (sAsg g fa)) := ok_sasg ha hg hs hw h1
/-! ### loops -/
theorem iQ {fa : ME} (ha : PE X a (rdE X.K fa)) : PI X tg a (rdI X.K (iSeq fa)) := ok_iseq ha
theorem iR1 {fa : ME} (hm : X.mg "range" = none) (ha : PE X a (rdE X.K fa)) (hg : Gl X "range" := by rfl) (hs : starEach [a] X.env = [(false, eval a X.env)] := by rfl) : PI X tg (.Call (.Name "range" p) [a] [] pos) (rdI X.K (iRg1 fa)) := ok_rg1 hg hm ha hs
theorem iR2 {fa fb : ME} (hm : X.mg "range" = none) (ha : PE X a (rdE X.K fa)) (hb : PE X b (rdE X.K fb)) (hg : Gl X "range" := by rfl) (hs : starEach [a, b] X.env = [(false, eval a X.env), (false, eval b X.env)] := by rfl) (hs2 : starEach [b] X.env = [(false, eval b X.env)] := by rfl) : PI X tg (.Call (.Name "range" p) [a, b] [] pos) (rdI X.K (iRg2 fa fb)) := ok_rg2 hg hm ha hb hs hs2
theorem iE {fa : ME} {elts : List Expr} {kk : Nat} (hm : X.mg "enumerate" = none) (ha : PE X a (rdE X.K fa)) (hg : Gl X "enumerate" := by rfl) (hs : starEach [a] X.env = [(false, eval a X.env)] := by rfl) : PI X (.Tuple elts kk tp) (.Call (.Name "enumerate" p) [a] [] pos) (rdI X.K (iEnu fa)) := ok_ienu hg hm ha hs
theorem iZ {fa fb : ME} {elts : List Expr} {kk : Nat} (hm : X.mg "zip" = none) (ha : PE X a (rdE X.K fa)) (hb : PE X b (rdE X.K fb)) (hg : Gl X "zip" := by rfl)
    (hs : starEach [a, b] X.env = (false, eval a X.env) :: starEach [b] X.env := by rfl) (hs2 : starEach [b] X.env = [(false, eval b X.env)] := by rfl) (hpl : (backTo pos (starEach [b] X.env)).any (·.1) = false := by rfl) :
    PI X (.Tuple elts kk tp) (.Call (.Name "zip" p) [a, b] [] pos) (rdI X.K (iZp fa fb)) := ok_izp hg hm ha hb hs hs2 hpl
theorem sF {iter : Expr} {body : List Stmt} {fi : MI} {g : MGh} {S : List Nat} {fb : MS} (hp : PassesOwn (model X.prog X.w) X.A X.env X.xe) (hi : PI X tg iter (rdI X.K fi)) (hg : PG X tg (rdG X.K g S)) (hb : PSs X body (rdS X.K fb)) (hc : X.calm = true := by rfl)
    (hs : ∀ x, foldedSetIterable iter X.env x = pure x := by intro _; rfl) : PS X (.For tg iter body [] pos) (rdS X.K (sFor fi g fb)) := ok_sfor hp hc hi hg hb hs
theorem sL (n : Nat) {body : List Stmt} {ft : MT} {fb : MS} (hp : PassesOwn (model X.prog X.w) X.A X.env X.xe) (hc : PT X c (rdT X.K ft)) (hb : PSs X body (rdS X.K fb)) : PS X (.While c body [] pos) (rdS X.K (sWh n ft fb)) := ok_swh n hp hc hb
/-! ### comprehensions -/
variable {elt iter iter1 tg1 : Expr} {ifs ifs1 : List Expr} {scope : Scope} {own : List (Str × Nat)} {vs1 : List Nat}
theorem lc0 {fi : MI} {g : MGh} {S : List Nat} {fe : ME} (own : List (Str × Nat)) (hN : X.N.Nodup) (hi : PI X tg iter (rdI X.K fi)) (hg : Blk X scope fun Y => PG Y tg (rdG Y.K g S)) (he : Blk X scope fun Y => PE Y elt (rdE Y.K fe))
    (ok : blkC X.N X.env.scope scope own = true := by rfl) (hS : ∀ i ∈ S, i ∈ own.map (·.2) := by decide) (hc : X.calm = true := by rfl) (hs : ∀ x, foldedSetIterable iter X.env x = pure x := by intro _; rfl) :
    PE X (.ListComp elt [⟨tg, iter, [], 0⟩] scope pos) (rdE X.K (eLc fi g (bd0 fe) (own.map (·.2)))) := ok_lc bd0_ok hc hN hi (blkOk_by ok) hS hg (fun _ _ _ _ _ => pts_nil) he hs
theorem lc1 {fi : MI} {g : MGh} {S : List Nat} {ft : MT} {fe : ME} {c : Expr} (own : List (Str × Nat)) (hN : X.N.Nodup) (hi : PI X tg iter (rdI X.K fi)) (hg : Blk X scope fun Y => PG Y tg (rdG Y.K g S)) (ht : Blk X scope fun Y => PT Y c (rdT Y.K ft)) (he : Blk X scope fun Y => PE Y elt (rdE Y.K fe))
    (ok : blkC X.N X.env.scope scope own = true := by rfl) (hS : ∀ i ∈ S, i ∈ own.map (·.2) := by decide) (hc : X.calm = true := by rfl) (hs : ∀ x, foldedSetIterable iter X.env x = pure x := by intro _; rfl) :
    PE X (.ListComp elt [⟨tg, iter, [c], 0⟩] scope pos) (rdE X.K (eLc fi g (bd1 ft fe) (own.map (·.2)))) := ok_lc bd1_ok hc hN hi (blkOk_by ok) hS hg (fun s H C cl fp => pts_one (ht s H C cl fp)) he hs
theorem sc0 {fi : MI} {g : MGh} {S : List Nat} {fe : ME} {y : Str} {py spos : Pos} (i : Nat) (own : List (Str × Nat)) (hN : X.N.Nodup) (hi : PI X tg iter (rdI X.K fi)) (hg : Blk X scope fun Y => PG Y tg (rdG Y.K g S)) (he : Blk X scope fun Y => PE Y elt (rdE Y.K fe))
    (hy : X.N[i]? = some y := by rfl) (hyl : X.env.scope.names.lookup y = some .local := by rfl) (hsw : swapsWith (.ListComp elt [⟨tg, iter, [], 0⟩] scope pos) (some (.Name y py)) spos.line X.env = pure true := by rfl)
    (ok : blkC X.N X.env.scope scope own = true := by rfl) (hS : ∀ i ∈ S, i ∈ own.map (·.2) := by decide) (hc : X.calm = true := by rfl) (hs : ∀ x, foldedSetIterable iter X.env x = pure x := by intro _; rfl) :
    PS X (.Assign [.Name y py] (.ListComp elt [⟨tg, iter, [], 0⟩] scope pos) spos) (rdS X.K (sSet i (eLc fi g (bd0 fe) (own.map (·.2))))) := ok_setLc bd0_ok hc hN hy hyl hsw hi (blkOk_by ok) hS hg (fun _ _ _ _ _ => pts_nil) he hs
theorem sc1 {fi : MI} {g : MGh} {S : List Nat} {ft : MT} {fe : ME} {c : Expr} {y : Str} {py spos : Pos} (i : Nat) (own : List (Str × Nat)) (hN : X.N.Nodup) (hi : PI X tg iter (rdI X.K fi)) (hg : Blk X scope fun Y => PG Y tg (rdG Y.K g S)) (ht : Blk X scope fun Y => PT Y c (rdT Y.K ft)) (he : Blk X scope fun Y => PE Y elt (rdE Y.K fe))
    (hy : X.N[i]? = some y := by rfl) (hyl : X.env.scope.names.lookup y = some .local := by rfl) (hsw : swapsWith (.ListComp elt [⟨tg, iter, [c], 0⟩] scope pos) (some (.Name y py)) spos.line X.env = pure true := by rfl)
    (ok : blkC X.N X.env.scope scope own = true := by rfl) (hS : ∀ i ∈ S, i ∈ own.map (·.2) := by decide) (hc : X.calm = true := by rfl) (hs : ∀ x, foldedSetIterable iter X.env x = pure x := by intro _; rfl) :
    PS X (.Assign [.Name y py] (.ListComp elt [⟨tg, iter, [c], 0⟩] scope pos) spos) (rdS X.K (sSet i (eLc fi g (bd1 ft fe) (own.map (·.2))))) := ok_setLc bd1_ok hc hN hy hyl hsw hi (blkOk_by ok) hS hg (fun s H C cl fp => pts_one (ht s H C cl fp)) he hs
end
end Pv
set_option Elab.async false
set_option linter.all false
set_option maxRecDepth 100000
set_option maxHeartbeats 4000000
/-! x[::-1] of a tuple or a list. -/
noncomputable section
namespace Pv
open PySem PySem.Spec PyProof.Rows L2
section
variable {prog : Program} {w : World} {A : Around} {E : Value → Shared → Prop} {s : Shared}
theorem adjRev (n : Nat) : Builtin.Slice.sliceAdjust none none (-1) (n : Int) = ((n : Int) - 1, -1) := rfl
theorem placesRev (n : Nat) : Builtin.Slice.slicePlaces ((n : Int) - 1) (-1) (-1) = n := by
  unfold Builtin.Slice.slicePlaces
  rw [if_neg (by decide)]
  by_cases h : (n : Int) - 1 > -1
  · rw [if_pos h, show (- -1 : Int) = 1 by decide, Int.ediv_one]; omega
  · rw [if_neg h]; omega
theorem appliedRev {sl : Addr} {u : Tok} {n : Nat} {Q : Int × Int × Nat → Shared → Prop} {vl vu : Value} (hs : s.heap.IsSliceOf sl vl vu (.int (-1) u)) (pl : IsPart vl none) (pu : IsPart vu none) (q : Q ((n : Int) - 1, -1, n) s) :
    wpAny (model prog w) A (Builtin.Slice.sliceApplied (.ref sl) (pure (n : Int))) Q E s := by
  obtain ⟨o, eo, co, d⟩ := id hs
  unfold Builtin.Slice.sliceApplied Builtin.Slice.sliceFields
  refine wpAny_bind (wpAny_bind (wpAny_field eo d (x := vl) rfl (wpAny_bind (wpAny_field eo d (x := vu) rfl (wpAny_bind (wpAny_field eo d (x := .int (-1) u) rfl (wpAny_pure ?_)))))))
  refine wpAny_bind (slicePart_int ?_)
  show wpAny _ _ (if ((-1 : Int) == 0) = true then _ else _) _ _ s
  rw [if_neg (by decide)]
  refine wpAny_bind (HT.slicePart_ pl (wpAny_bind (HT.slicePart_ pu (wpAny_bind (wpAny_pure ?_)))))
  show wpAny _ _ (match Builtin.Slice.sliceAdjust none none (-1) (n : Int) with | (lo, hi) => pure (lo, (-1 : Int), Builtin.Slice.slicePlaces lo hi (-1))) _ _ s
  rw [adjRev n]
  show wpAny _ _ (pure ((n : Int) - 1, (-1 : Int), Builtin.Slice.slicePlaces ((n : Int) - 1) (-1) (-1))) _ _ s
  rw [placesRev]
  exact wpAny_pure q
theorem fm_congr {α β : Type} {f g : α → Option β} : ∀ {l : List α}, (∀ x ∈ l, f x = g x) → l.filterMap f = l.filterMap g
  | [], _ => rfl
  | x :: l, h => by
    rw [List.filterMap_cons, List.filterMap_cons, h x List.mem_cons_self, fm_congr fun y hy => h y (List.mem_cons_of_mem _ hy)]
theorem pickRev (xs : Array Value) : ((List.range xs.size).filterMap fun (m : Nat) => xs[((xs.size : Int) - 1 + (m : Int) * (-1)).toNat]?).toArray = xs.toList.reverse.toArray := by
  congr 1
  have e : ((List.range xs.size).filterMap fun (m : Nat) => xs[((xs.size : Int) - 1 + (m : Int) * (-1)).toNat]?) = (List.range xs.size).filterMap fun m => xs[xs.size - 1 - m]? := by
    refine fm_congr fun m hm => ?_
    have lt := List.mem_range.mp hm
    rw [show ((xs.size : Int) - 1 + (m : Int) * (-1)).toNat = xs.size - 1 - m by omega]
  rw [e, show ((List.range xs.size).filterMap fun m => xs[xs.size - 1 - m]?) = ((List.range xs.size).map (fun m => xs.size - 1 - m)).filterMap (xs[·]?) by rw [List.filterMap_map]; rfl, PySem.W.krv_range, List.filterMap_reverse, PySem.W.krv_all]
theorem getRevT {t sl : Addr} {items : Array Value} {u : Tok} {vl vu : Value} {Q : Value → Shared → Prop} (ht : IsTup s.heap t items) (hs : s.heap.IsSliceOf sl vl vu (.int (-1) u)) (pl : IsPart vl none) (pu : IsPart vu none)
    (q : Q (.ref s.heap.objs.size) { s with heap := s.heap.push { cls := .type "tuple", data := .seq items.toList.reverse.toArray } }) (hz : items.size ≤ sizeLine) : wpAny (model prog w) A (getItem (.ref t) (.ref sl)) Q E s := by
  have sz : sizeOk (.seq items.toList.reverse.toArray) := by
    show items.toList.reverse.toArray.size ≤ sizeLine
    rw [List.size_toArray, List.length_reverse, Array.length_toList]
    exact hz
  obtain ⟨o, eo, co, d⟩ := id hs
  have ty : s.TypeIs (.ref sl) "slice" := ⟨o, eo, co⟩
  unfold getItem
  try with_reducible refine wpAny_holding ?_
  first | refine wpAny_bind (wpAny_pure ?_) | skip
  refine wpAny_bind (wpAny_sequenceKey ht.typeIs (by decide) ?_)
  refine wpAny_bind (wpAny_callSpecial?_slot (name := Str.ofString "__getitem__") ht.typeIs PyProof.Rows.slot_tuple_getitem (wpAny_call_entry PyProof.Rows.slot_tuple_getitem ht.typeIs PyProof.Rows.entry_tuple_getitem ?_ (PyProof.Rows.args_tuple_getitem (.ref t) (.ref sl))))
  show wpAny _ _ (Builtin.Tuple.tupleItemsOf (.ref t) >>= _) _ _ s
  refine wpAny_bind (PyProof.Rows.tupleItemsOf_ ht ?_)
  refine wpAny_bind (wpAny_typeOf ty ?_)
  rw [if_pos (by decide)]
  refine wpAny_bind (appliedRev hs pl pu ?_)
  have no : ¬ (((((items.size : Nat) : Int) - 1) == 0 && (-1 : Int) == 1 && items.size == items.size) = true) := by
    intro z
    rw [Bool.and_eq_true, Bool.and_eq_true] at z
    exact absurd z.1.2 (by decide)
  show wpAny _ _ (if ((((items.size : Nat) : Int) - 1) == 0 && (-1 : Int) == 1 && items.size == items.size) = true then _ else _) _ _ s
  rw [if_neg no, pickRev]
  first
    | exact wpAny_bind (m := Builtin.Tuple.tupleExact _) (wpAny_newObj_type (wpAny_pure ⟨_, rfl, wpAny_pure q⟩) sz)
    | exact wpAny_bind (m := Builtin.Tuple.tupleExact _) (wpAny_newObj_type (wpAny_bind (wpAny_pure (wpAny_pure ⟨_, rfl, wpAny_pure q⟩))) sz)
    | exact wpAny_bind (wpAny_bind (m := Builtin.Tuple.tupleExact _) (wpAny_newObj_type (wpAny_pure (wpAny_pure ⟨_, rfl, wpAny_pure q⟩)) sz))
    | exact wpAny_bind (wpAny_bind (m := Builtin.Tuple.tupleExact _) (wpAny_newObj_type (wpAny_pure ⟨_, rfl, wpAny_pure q⟩) sz))
end
section
variable {X : Cx} {K : PySem.W.Frag} {m m' : Nat → Addr} {h h' : Hv} {H H' : Hp} {es : List D} {σ : L2.St} {v : V} {d : D} {k : KD} {Q : VK} {e a b c : Expr} {pos : Pos} {j n : Nat}
def tRev (K : PySem.W.Frag) (te : TE) : TE := fun σ H Q => te σ H fun x H1 => ∃ a xs, x = .ref a ∧ ((SqL K H1 a xs ∧ ∀ p, H1 p = none → Q (.ref p) (upd H1 p (.lst xs.reverse))) ∨ (SqT K H1 a xs ∧ ∀ p, H1 p = none → Q (.ref p) (upd H1 p (.tup xs.reverse))))
theorem pe_rev {te : TE} {k : Nat} {p1 p2 p3 : Pos} (he : PE X e te) : PE X (.Subscript e (.Slice none none (some (.UnaryOp .USub (.Constant (.int 1) k p1) p2)) p3) pos) (tRev X.K te) := by
  constructor
  intro pins s σ H Q I q
  refine Subscript_ (thn (he.run pins s σ H _ I q) fun v s1 ⟨x, H1, I1, r1, a, xs, ex, cs⟩ => ?_)
  subst ex
  cases r1
  have st : PO X (some (.UnaryOp .USub (.Constant (.int 1) k p1) p2)) (tPart (tUn (rU fun i => .int (-i)) (tC (.int 1)))) := po_some (pe_un un_neg pe_int)
  refine wpAny_Slice (thn (po_none.run pins s1 σ H1 (fun o G => o = none ∧ G = H1) I1 ⟨rfl, rfl⟩) fun vl s2 ⟨l, H2, I2, pl, el, e2⟩ => ?_)
  subst el e2
  refine thn (po_none.run pins s2 σ H2 (fun o G => o = none ∧ G = H2) I2 ⟨rfl, rfl⟩) fun vu s3 ⟨u, H3, I3, pu, eu, e3⟩ => ?_
  subst eu e3
  refine thn (st.run pins s3 σ H3 (fun o G => o = some (-1) ∧ G = H3) I3 ⟨1, rfl, -1, rfl, rfl, rfl⟩) fun vs s4 ⟨o, H4, I4, ps, eo, e4⟩ => ?_
  subst eo e4
  have I5 : Inv X pins σ H4 { s4 with heap := s4.heap.push { cls := .type "slice", data := .fields #[vl, vu, vs] } } := I4.kept (t' := s4.toks) fun b ob z => Heap.get?_push_of_some _ z
  rcases cs with ⟨sq, q⟩ | ⟨sq, q⟩
  · obtain ⟨its, r, pl', hz⟩ := I5.list sq
    have len := r.length
    refine tail_any (ops := [.ref a, .ref s4.heap.objs.size]) pl'.isList.typeIs (PySem.slot_list_getitem.lookup) ?_ (by with_unfolding_all rfl)
    refine wpAny_getItem_list_slice pl'.isList (Heap.IsSliceOf.new _ vl vu vs) pl pu ps (by decide) ?_ (by rw [List.size_toArray]; omega)
    rw [PySem.W.krv_pick]
    exact ⟨.ref _, _, I5.laid (t' := s4.toks) (o := .lst xs.reverse) (fun b ob z => Heap.get?_push_of_some _ z) (Nat.le_refl _) ⟨by rw [List.length_reverse]; exact hz, _, 0, r.reverse, Heap.get?_push_size _ rfl⟩, rfl, q _ (I5.hok.fresh (Nat.le_refl _))⟩
  · obtain ⟨its, r, pt, hz⟩ := I5.tuple sq
    have len := r.length
    cases ps with
    | int i tk =>
      refine tail_any (ops := [.ref a, .ref s4.heap.objs.size]) pt.typeIs PyProof.Rows.slot_tuple_getitem.lookup ?_ (by with_unfolding_all rfl)
      refine getRevT pt (Heap.IsSliceOf.new _ vl vu _) pl pu ?_ (by rw [List.size_toArray]; omega)
      refine ⟨.ref _, _, I5.laid (t' := s4.toks) (o := .tup xs.reverse) (fun b ob z => Heap.get?_push_of_some _ z) (Nat.le_refl _) ⟨by rw [List.length_reverse]; exact hz, its.reverse, r.reverse, ⟨_, Heap.get?_push_size _ rfl, rfl, 0, by simp⟩⟩, rfl, q _ (I5.hok.fresh (Nat.le_refl _))⟩
def rvD (x : D) (h : Hv) (k : KD) : Bool := dc x nF nF (fun p ds => k (.tup p (revL ds)) h) (fun ds => k (.tpr (revL ds)) h) (fun j => seqR j h fun ds => alloc (.lst (revL ds)) h k) aF
def eRev (a : ME) : ME := fun es h k => a es h fun x h => rvD x h k
theorem rV {fa : ME} {kk : Nat} {p1 p2 p3 : Pos} (ha : PE X a (rdE X.K fa)) : PE X (.Subscript a (.Slice none none (some (.UnaryOp .USub (.Constant (.int 1) kk p1) p2)) p3) pos) (rdE X.K (eRev fa)) := by
  refine pe_mono (pe_rev ha) ?_
  rintro σ H Q ⟨m, h, es, k, w, q, p⟩
  refine ⟨m, h, es, _, w, q, fun x m1 h1 H1 dx e1 w1 r1 q1 => ?_⟩
  have p1 := p.mono e1
  cases r1 with
  | tup s r z zz =>
    rename_i aa pp vs ds
    have q2 : k (.tup pp (revL ds)) h1 = true := q1
    rw [revL_eq] at q2
    refine ⟨_, _, rfl, .inr ⟨s, fun l nl => p1.newTup w1 r.reverse (fun s' r' => .tup s' r' z fun d hd => zz d (List.mem_reverse.mp hd)) q2 l nl⟩⟩
  | tpr s r =>
    rename_i aa vs ds
    have q2 : k (.tpr (revL ds)) h1 = true := q1
    rw [revL_eq] at q2
    exact ⟨_, _, rfl, .inr ⟨s, fun l nl => p1.newTup w1 r.reverse (fun s' r' => .tpr s' r') q2 l nl⟩⟩
  | ref j lj =>
    obtain ⟨ds, vs, u, _, _, q2, hh, rs⟩ := seqR_true w1.hs (show seqR j h1 _ = true from q1)
    rw [revL_eq] at q2
    exact ⟨_, _, rfl, .inl ⟨SqL.of hh, fun l nl => p1.newLst w1 rs.reverse q2 l nl⟩⟩
  | _ => cases q1

/-! ### a def that is never run -/
theorem fn_false {P : Program} {w : World} {mg : Str → Option Value} {base : Heap} {x qual : Str} {params : Arguments} {body : List Stmt} {scope : Scope} {f : Addr} {fd : FuncData} {N ps : List Str} {kk L : Nat}
    (F : FunD K x qual params body scope [] [] f fd) (S : FnScope N ps scope) (hL : ps.length = L) : FnOk P w K mg base CX0 kk f fd ps (spC K L (fun _ _ _ => false)) := by
  refine ⟨fun vs H Q E q => by rw [hL]; exact q.1, fun A outer s H args us vs Q E hr he hb hv q => ?_⟩
  obtain ⟨_, m, h, ds, k, _, _, q, _⟩ := q
  cases q

/-! ### range(a, b, -1) -/
def downL (n : Nat) : Nat → List D → List D := @Nat.rec (fun _ => Nat → List D → List D) (fun _ r => r) (fun _ ih lo r => .nat (Nat.add lo (Nat.sub 0 0)) :: ih lo r) n
/-- hi, hi - 1, .. (n of them), not below 0 -/
def dnL (n : Nat) : Nat → List D := @Nat.rec (fun _ => Nat → List D) (fun _ => []) (fun _ ih hi => .nat hi :: ih (Nat.pred hi)) n
theorem dnL_length : ∀ n hi : Nat, (dnL n hi).length = n
  | 0, _ => rfl
  | n + 1, hi => by show (dnL n (hi - 1)).length + 1 = _; rw [dnL_length n (hi - 1)]
theorem dnL_at : ∀ (n hi t : Nat) (d : D), n ≤ hi + 1 → (dnL n hi)[t]? = some d → d = .nat (hi - t)
  | 0, hi, t, d, _, e => by
    have e' : ([] : List D)[t]? = some d := e
    simp at e'
  | n + 1, hi, 0, d, _, e => by cases e; rfl
  | n + 1, hi, t + 1, d, l, e => by
    have := dnL_at n (hi - 1) t d (by omega) e
    rw [this]
    congr 1
    omega
def rgdK (x y : D) (k : List D → Bool) : Bool := dc x
  (fun i => dc y (fun j => bsel (Nat.blt i L62) (bsel (Nat.blt j L62) (fN (Nat.sub i j) fun n => k (dnL n i)) false) false) (fun j => bsel (Nat.blt i L62) (bsel (Nat.beq j 0) (k (dnL (Nat.succ i) i)) false) false) pF lF nF aF)
  (fun i => dc y (fun j => bsel (Nat.blt i L62) (bsel (Nat.blt j L62) (k []) false) false) (fun j => bsel (Nat.beq i 0) (bsel (Nat.beq j 0) (k []) false) false) pF lF nF aF) pF lF nF aF
theorem fxD_ok {ds : List D} {lo c : Int} {nn : Nat} (hl : ds.length = nn) (hd : ∀ (i : Nat) (d : D), ds[i]? = some d → d = dI (lo + i * c)) : FxOk K m h H (Itc lo c nn) ds := by
  intro m' h' H' e hs
  refine ⟨fun i d ed => ?_, fun i l => by rw [hl] at l; exact l⟩
  have hi : i < ds.length := (List.getElem?_eq_some_iff.mp ed).1
  refine ⟨by rw [hl] at hi; exact hi, ?_⟩
  rintro x H2 ⟨rfl, rfl⟩
  rw [hd i d ed]
  exact ⟨hs, Ext.refl, rd_dI _⟩
theorem rgdK_true {x y : D} {vx vy : V} {k : List D → Bool} (rx : RD K m H n vx x) (ry : RD K m H n vy y) (q : rgdK x y k = true) :
    ∃ (i j : Int) (ds : List D), vx = .int i ∧ vy = .int j ∧ RgC i j (-1) (i - j).toNat ∧ ds.length = (i - j).toNat ∧ (∀ (t : Nat) (d : D), ds[t]? = some d → d = dI (i + t * (-1))) ∧ k ds = true := by
  unfold rgdK at q
  cases rx with
  | nat i =>
    cases ry with
    | nat j =>
      obtain ⟨l, q⟩ := bsel_tf (show bsel (Nat.blt i L62) _ false = true from q)
      obtain ⟨l2, q⟩ := bsel_tf q
      rw [fN_eq] at q
      have l' : i < 4611686018427387904 := blt_lt l
      have l2' : j < 4611686018427387904 := blt_lt l2
      refine ⟨_, _, _, rfl, rfl, RgC.neg (by simp only [Int.ofNat_eq_natCast]; omega) (by simp only [Int.ofNat_eq_natCast]; omega) (by simp only [Int.ofNat_eq_natCast]; omega) (by simp only [Int.ofNat_eq_natCast]; omega), by rw [dnL_length]; simp only [Int.ofNat_eq_natCast, Nat.sub_eq]; omega, fun t d ed => ?_, q⟩
      have lt : t < i - j := by have := (List.getElem?_eq_some_iff.mp ed).1; rw [dnL_length] at this; exact this
      rw [dnL_at _ _ _ _ (by show i - j ≤ i + 1; omega) ed]
      rw [show (Int.ofNat i + (t : Int) * (-1)) = Int.ofNat (i - t) by simp only [Int.ofNat_eq_natCast]; omega]
      rfl
    | neg j =>
      obtain ⟨l, q⟩ := bsel_tf (show bsel (Nat.blt i L62) _ false = true from q)
      obtain ⟨l2, q⟩ := bsel_tf q
      have l' : i < 4611686018427387904 := blt_lt l
      have l2' : j = 0 := Nat.eq_of_beq_eq_true l2
      subst l2'
      refine ⟨_, _, _, rfl, rfl, RgC.neg (by simp only [Int.ofNat_eq_natCast]; omega) (by simp only [Int.ofNat_eq_natCast]; omega) (by decide) (by decide), by rw [dnL_length, Int.negSucc_eq]; simp only [Int.ofNat_eq_natCast, Nat.succ_eq_add_one]; omega, fun t d ed => ?_, q⟩
      have lt : t < i + 1 := by have := (List.getElem?_eq_some_iff.mp ed).1; rw [dnL_length] at this; exact this
      rw [dnL_at _ _ _ _ (Nat.le_refl _) ed]
      rw [show (Int.ofNat i + (t : Int) * (-1)) = Int.ofNat (i - t) by simp only [Int.ofNat_eq_natCast]; omega]
      rfl
    | _ => cases q
  | neg i =>
    cases ry with
    | nat j =>
      obtain ⟨l, q⟩ := bsel_tf (show bsel (Nat.blt i L62) _ false = true from q)
      obtain ⟨l2, q⟩ := bsel_tf q
      have l' : i < 4611686018427387904 := blt_lt l
      have l2' : j < 4611686018427387904 := blt_lt l2
      refine ⟨_, _, _, rfl, rfl, RgC.neg (by rw [Int.negSucc_eq]; omega) (by rw [Int.negSucc_eq]; omega) (by simp only [Int.ofNat_eq_natCast]; omega) (by simp only [Int.ofNat_eq_natCast]; omega), by rw [List.length_nil, Int.negSucc_eq]; simp only [Int.ofNat_eq_natCast]; omega, fun t d ed => by simp at ed, q⟩
    | neg j =>
      obtain ⟨l, q⟩ := bsel_tf (show bsel (Nat.beq i 0) _ false = true from q)
      obtain ⟨l2, q⟩ := bsel_tf q
      have l1' : i = 0 := Nat.eq_of_beq_eq_true l
      have l2' : j = 0 := Nat.eq_of_beq_eq_true l2
      subst l1' l2'
      exact ⟨_, _, _, rfl, rfl, RgC.neg (by decide) (by decide) (by decide) (by decide), by decide, fun t d ed => by simp at ed, q⟩
    | _ => cases q
  | _ => cases q
def iRgD (a b : ME) : MI := fun es h k => a es h fun x h => b es h fun y h => rgdK x y fun ds => k (.fx ds) h
theorem iR3 {tg : Expr} {fa fb : ME} {p p1 p2 : Pos} {kk : Nat} (hm : X.mg "range" = none) (ha : PE X a (rdE X.K fa)) (hb : PE X b (rdE X.K fb)) (hg : Gl X "range" := by rfl)
    (h1 : starEach [a, b, .UnaryOp .USub (.Constant (.int 1) kk p1) p2] X.env = (false, eval a X.env) :: starEach [b, .UnaryOp .USub (.Constant (.int 1) kk p1) p2] X.env := by rfl)
    (h2 : starEach [b, .UnaryOp .USub (.Constant (.int 1) kk p1) p2] X.env = (false, eval b X.env) :: starEach [.UnaryOp .USub (.Constant (.int 1) kk p1) p2] X.env := by rfl)
    (h3 : starEach [.UnaryOp .USub (.Constant (.int 1) kk p1) p2] X.env = (false, eval (.UnaryOp .USub (.Constant (.int 1) kk p1) p2) X.env) :: starEach [] X.env := by rfl)
    (hpl : (backTo pos (starEach [b, .UnaryOp .USub (.Constant (.int 1) kk p1) p2] X.env)).any (·.1) = false := by rfl) :
    PI X tg (.Call (.Name "range" p) [a, b, .UnaryOp .USub (.Constant (.int 1) kk p1) p2] [] pos) (rdI X.K (iRgD fa fb)) := by
  refine pi_mono (pi_range3 hg hm (pa_cons ha (pa_cons hb (pa_cons (pe_un un_neg pe_int) pa_nil h3) h2) h1) h1 hpl) ?_
  rintro σ H R ⟨m, h, es, k, w, q, p⟩
  refine ⟨m, h, es, _, w, q, fun x m1 h1 H1 d e1 w1 r1 q1 => ?_⟩
  refine ⟨m1, h1, es, _, w1, q1, fun y m2 h2 H2 dy e2 w2 r2 q2 => ?_⟩
  obtain ⟨i, j, ds, rfl, rfl, rg, hl, hd, q3⟩ := rgdK_true (r1.mono e2 w1.hs) r2 q2
  exact ⟨1, rfl, i, j, -1, _, rfl, rg, p _ (.fx ds) m2 h2 H2 (e1.trans e2) w2 (fxD_ok hl hd) q3⟩

/-! ### comprehensions of two clauses -/
section
variable {tg tg1 elt iter iter1 : Expr} {ifs ifs1 : List Expr} {scope : Scope}
theorem lc20 {fi fi1 : MI} {g g1 : MGh} {S S1 : List Nat} {ft : MT} {fe : ME} (own : List (Str × Nat)) (vs1 : List Nat) (hN : X.N.Nodup) (hi : PI X tg iter (rdI X.K fi)) (hg : Blk X scope fun Y => PG Y tg (rdG Y.K g S)) (ht : Blk X scope fun Y => PTs Y ifs (rdT Y.K ft)) (hi1 : Blk X scope fun Y => PI Y tg1 iter1 (rdI Y.K fi1)) (hg1 : Blk X scope fun Y => PG Y tg1 (rdG Y.K g1 S1)) (he : Blk X scope fun Y => PE Y elt (rdE Y.K fe))
    (ok : blkC X.N X.env.scope scope own = true := by rfl) (hv : ∀ i ∈ vs1, i ∈ own.map (·.2) := by decide) (hS : ∀ i ∈ S, i ∈ own.map (·.2) := by decide) (hS1 : ∀ i ∈ S1, i ∈ vs1 := by decide) (hc : X.calm = true := by rfl) (hs : ∀ x, foldedSetIterable iter X.env x = pure x := by intro _; rfl) (hs1 : ∀ env x, foldedSetIterable iter1 env x = pure x := by intro _ _; rfl) :
    PE X (.ListComp elt [⟨tg, iter, ifs, 0⟩, ⟨tg1, iter1, [], 0⟩] scope pos) (rdE X.K (eLc fi g (bd2 ft fi1 g1 (bd0 fe) vs1) (own.map (·.2)))) := ok_lc2 bd0_ok hc hN hi (blkOk_by ok) hv hS hS1 hg ht hi1 hg1 (fun _ _ _ _ _ => pts_nil) he hs hs1
theorem sc20 {fi fi1 : MI} {g g1 : MGh} {S S1 : List Nat} {ft : MT} {fe : ME} {y : Str} {py spos : Pos} (i : Nat) (own : List (Str × Nat)) (vs1 : List Nat) (hN : X.N.Nodup) (hi : PI X tg iter (rdI X.K fi)) (hg : Blk X scope fun Y => PG Y tg (rdG Y.K g S)) (ht : Blk X scope fun Y => PTs Y ifs (rdT Y.K ft)) (hi1 : Blk X scope fun Y => PI Y tg1 iter1 (rdI Y.K fi1)) (hg1 : Blk X scope fun Y => PG Y tg1 (rdG Y.K g1 S1)) (he : Blk X scope fun Y => PE Y elt (rdE Y.K fe))
    (hy : X.N[i]? = some y := by rfl) (hyl : X.env.scope.names.lookup y = some .local := by rfl) (hsw : swapsWith (.ListComp elt [⟨tg, iter, ifs, 0⟩, ⟨tg1, iter1, [], 0⟩] scope pos) (some (.Name y py)) spos.line X.env = pure true := by rfl)
    (ok : blkC X.N X.env.scope scope own = true := by rfl) (hv : ∀ i ∈ vs1, i ∈ own.map (·.2) := by decide) (hS : ∀ i ∈ S, i ∈ own.map (·.2) := by decide) (hS1 : ∀ i ∈ S1, i ∈ vs1 := by decide) (hc : X.calm = true := by rfl) (hs : ∀ x, foldedSetIterable iter X.env x = pure x := by intro _; rfl) (hs1 : ∀ env x, foldedSetIterable iter1 env x = pure x := by intro _ _; rfl) :
    PS X (.Assign [.Name y py] (.ListComp elt [⟨tg, iter, ifs, 0⟩, ⟨tg1, iter1, [], 0⟩] scope pos) spos) (rdS X.K (sSet i (eLc fi g (bd2 ft fi1 g1 (bd0 fe) vs1) (own.map (·.2))))) := ok_setLc2 bd0_ok hc hN hy hyl hsw hi (blkOk_by ok) hv hS hS1 hg ht hi1 hg1 (fun _ _ _ _ _ => pts_nil) he hs hs1
theorem lc21 {fi fi1 : MI} {g g1 : MGh} {S S1 : List Nat} {ft ft1 : MT} {fe : ME} {c : Expr} (own : List (Str × Nat)) (vs1 : List Nat) (hN : X.N.Nodup) (hi : PI X tg iter (rdI X.K fi)) (hg : Blk X scope fun Y => PG Y tg (rdG Y.K g S)) (ht : Blk X scope fun Y => PTs Y ifs (rdT Y.K ft)) (hi1 : Blk X scope fun Y => PI Y tg1 iter1 (rdI Y.K fi1)) (hg1 : Blk X scope fun Y => PG Y tg1 (rdG Y.K g1 S1)) (ht1 : Blk X scope fun Y => PT Y c (rdT Y.K ft1)) (he : Blk X scope fun Y => PE Y elt (rdE Y.K fe))
    (ok : blkC X.N X.env.scope scope own = true := by rfl) (hv : ∀ i ∈ vs1, i ∈ own.map (·.2) := by decide) (hS : ∀ i ∈ S, i ∈ own.map (·.2) := by decide) (hS1 : ∀ i ∈ S1, i ∈ vs1 := by decide) (hc : X.calm = true := by rfl) (hs : ∀ x, foldedSetIterable iter X.env x = pure x := by intro _; rfl) (hs1 : ∀ env x, foldedSetIterable iter1 env x = pure x := by intro _ _; rfl) :
    PE X (.ListComp elt [⟨tg, iter, ifs, 0⟩, ⟨tg1, iter1, [c], 0⟩] scope pos) (rdE X.K (eLc fi g (bd2 ft fi1 g1 (bd1 ft1 fe) vs1) (own.map (·.2)))) := ok_lc2 bd1_ok hc hN hi (blkOk_by ok) hv hS hS1 hg ht hi1 hg1 (fun s H C cl fp => pts_one (ht1 s H C cl fp)) he hs hs1
theorem sc21 {fi fi1 : MI} {g g1 : MGh} {S S1 : List Nat} {ft ft1 : MT} {fe : ME} {c : Expr} {y : Str} {py spos : Pos} (i : Nat) (own : List (Str × Nat)) (vs1 : List Nat) (hN : X.N.Nodup) (hi : PI X tg iter (rdI X.K fi)) (hg : Blk X scope fun Y => PG Y tg (rdG Y.K g S)) (ht : Blk X scope fun Y => PTs Y ifs (rdT Y.K ft)) (hi1 : Blk X scope fun Y => PI Y tg1 iter1 (rdI Y.K fi1)) (hg1 : Blk X scope fun Y => PG Y tg1 (rdG Y.K g1 S1)) (ht1 : Blk X scope fun Y => PT Y c (rdT Y.K ft1)) (he : Blk X scope fun Y => PE Y elt (rdE Y.K fe))
    (hy : X.N[i]? = some y := by rfl) (hyl : X.env.scope.names.lookup y = some .local := by rfl) (hsw : swapsWith (.ListComp elt [⟨tg, iter, ifs, 0⟩, ⟨tg1, iter1, [c], 0⟩] scope pos) (some (.Name y py)) spos.line X.env = pure true := by rfl)
    (ok : blkC X.N X.env.scope scope own = true := by rfl) (hv : ∀ i ∈ vs1, i ∈ own.map (·.2) := by decide) (hS : ∀ i ∈ S, i ∈ own.map (·.2) := by decide) (hS1 : ∀ i ∈ S1, i ∈ vs1 := by decide) (hc : X.calm = true := by rfl) (hs : ∀ x, foldedSetIterable iter X.env x = pure x := by intro _; rfl) (hs1 : ∀ env x, foldedSetIterable iter1 env x = pure x := by intro _ _; rfl) :
    PS X (.Assign [.Name y py] (.ListComp elt [⟨tg, iter, ifs, 0⟩, ⟨tg1, iter1, [c], 0⟩] scope pos) spos) (rdS X.K (sSet i (eLc fi g (bd2 ft fi1 g1 (bd1 ft1 fe) vs1) (own.map (·.2))))) := ok_setLc2 bd1_ok hc hN hy hyl hsw hi (blkOk_by ok) hv hS hS1 hg ht hi1 hg1 (fun s H C cl fp => pts_one (ht1 s H C cl fp)) he hs hs1
end
end
end Pv
set_option Elab.async false
set_option linter.all false
set_option maxRecDepth 100000
set_option maxHeartbeats 4000000
/-! sorted(xs): ints, or tuples of ints and tuples, to any depth. -/
noncomputable section
namespace Pv
open PySem PySem.Spec PyProof.Rows L2

/-! ### order of data -/
theorem pys_nil : pys [] = [] := by rw [pys]
theorem pys_cons (y : D) (t : List D) : pys (y :: t) = py y :: pys t := by rw [pys]
def lsD (x : D) : D → Bool := @D.rec (fun _ => D → Bool) (fun _ => List D → Bool)
  (fun i y => dc y (fun j => Nat.blt i j) nF pF lF nF aF)
  (fun i y => dc y (fun _ => true) (fun j => Nat.blt j i) pF lF nF aF)
  (fun _ _ ih y => dc y nF nF (fun _ es => ih es) lF nF aF)
  (fun _ _ _ => false) (fun _ _ => false) (fun _ _ => false)
  (fun es => @List.rec D (fun _ => Bool) false (fun _ _ _ => true) es)
  (fun x _ ihx ihr es => @List.rec D (fun _ => Bool) false (fun y t _ => bsel (eqD x y) (ihr t) (ihx y)) es) x
def lsL (xs : List D) : List D → Bool := @D.rec_1 (fun _ => D → Bool) (fun _ => List D → Bool)
  (fun i y => dc y (fun j => Nat.blt i j) nF pF lF nF aF)
  (fun i y => dc y (fun _ => true) (fun j => Nat.blt j i) pF lF nF aF)
  (fun _ _ ih y => dc y nF nF (fun _ es => ih es) lF nF aF)
  (fun _ _ _ => false) (fun _ _ => false) (fun _ _ => false)
  (fun es => @List.rec D (fun _ => Bool) false (fun _ _ _ => true) es)
  (fun x _ ihx ihr es => @List.rec D (fun _ => Bool) false (fun y t _ => bsel (eqD x y) (ihr t) (ihx y)) es) xs
def akD (x : D) : D → Bool := @D.rec (fun _ => D → Bool) (fun _ => List D → Bool)
  (fun _ y => dc y (fun _ => true) (fun _ => true) pF lF nF aF)
  (fun _ y => dc y (fun _ => true) (fun _ => true) pF lF nF aF)
  (fun _ _ ih y => dc y nF nF (fun _ es => ih es) lF nF aF)
  (fun _ _ _ => false) (fun _ _ => false) (fun _ _ => false)
  (fun _ => true)
  (fun _ _ ihx ihr es => @List.rec D (fun _ => Bool) true (fun y t _ => bsel (ihx y) (ihr t) false) es) x
def akL (xs : List D) : List D → Bool := @D.rec_1 (fun _ => D → Bool) (fun _ => List D → Bool)
  (fun _ y => dc y (fun _ => true) (fun _ => true) pF lF nF aF)
  (fun _ y => dc y (fun _ => true) (fun _ => true) pF lF nF aF)
  (fun _ _ ih y => dc y nF nF (fun _ es => ih es) lF nF aF)
  (fun _ _ _ => false) (fun _ _ => false) (fun _ _ => false)
  (fun _ => true)
  (fun _ _ ihx ihr es => @List.rec D (fun _ => Bool) true (fun y t _ => bsel (ihx y) (ihr t) false) es) xs
def atE (a b : At) : Bool := @At.rec (fun _ => Bool) false (@At.rec (fun _ => Bool) false true (fun _ => false) (fun _ => false) b) (fun x => @At.rec (fun _ => Bool) false false (fun y => bsel x y (bsel y false true)) (fun _ => false) b) (fun _ => false) a
theorem atE_true {a b : At} (q : atE a b = true) : a = b ∧ (a = .non ∨ ∃ c, a = .bl c) := by
  cases a with
  | non => cases b with
    | non => exact ⟨rfl, .inl rfl⟩
    | _ => cases q
  | bl c => cases b with
    | bl d => cases c <;> cases d <;> first | exact ⟨rfl, .inr ⟨_, rfl⟩⟩ | cases q
    | _ => cases q
  | _ => cases q
def smD (x : D) : D → Bool := @D.rec (fun _ => D → Bool) (fun _ => List D → Bool)
  (fun i y => dc y (fun j => Nat.beq i j) nF pF lF nF aF)
  (fun i y => dc y nF (fun j => Nat.beq i j) pF lF nF aF)
  (fun p _ ih y => dc y nF nF (fun q es => bsel (Nat.beq p q) (ih es) false) lF nF aF)
  (fun _ _ _ => false) (fun _ _ => false) (fun a y => dc y nF nF pF lF nF (fun b => atE a b))
  (fun es => @List.rec D (fun _ => Bool) true (fun _ _ _ => false) es)
  (fun _ _ ihx ihr es => @List.rec D (fun _ => Bool) false (fun y t _ => bsel (ihx y) (ihr t) false) es) x
def smL (xs : List D) : List D → Bool := @D.rec_1 (fun _ => D → Bool) (fun _ => List D → Bool)
  (fun i y => dc y (fun j => Nat.beq i j) nF pF lF nF aF)
  (fun i y => dc y nF (fun j => Nat.beq i j) pF lF nF aF)
  (fun p _ ih y => dc y nF nF (fun q es => bsel (Nat.beq p q) (ih es) false) lF nF aF)
  (fun _ _ _ => false) (fun _ _ => false) (fun a y => dc y nF nF pF lF nF (fun b => atE a b))
  (fun es => @List.rec D (fun _ => Bool) true (fun _ _ _ => false) es)
  (fun _ _ ihx ihr es => @List.rec D (fun _ => Bool) false (fun y t _ => bsel (ihx y) (ihr t) false) es) xs
mutual
theorem smD_true : ∀ {x y : D}, smD x y = true → x = y
  | .nat i, y, q => by
    cases y with
    | nat j => rw [Nat.eq_of_beq_eq_true (show Nat.beq i j = true from q)]
    | _ => cases q
  | .neg i, y, q => by
    cases y with
    | neg j => rw [Nat.eq_of_beq_eq_true (show Nat.beq i j = true from q)]
    | _ => cases q
  | .tup p ds, y, q => by
    cases y with
    | tup p' es =>
      obtain ⟨q1, q2⟩ := bsel_tf (show bsel (Nat.beq p p') (smL ds es) false = true from q)
      rw [Nat.eq_of_beq_eq_true q1, smL_true q2]
    | _ => cases q
  | .tpr _, _, q => by cases q
  | .ref _, _, q => by cases q
  | .oth a, y, q => by
    cases y with
    | oth b => rw [(atE_true (show atE a b = true from q)).1]
    | _ => cases q
theorem smL_true : ∀ {x y : List D}, smL x y = true → x = y
  | [], y, q => by
    cases y with
    | nil => rfl
    | cons _ _ => cases q
  | x :: r, y, q => by
    cases y with
    | nil => cases q
    | cons y t =>
      obtain ⟨q1, q2⟩ := bsel_tf (show bsel (smD x y) (smL r t) false = true from q)
      rw [smD_true q1, smL_true q2]
end
mutual
theorem akD_true : ∀ {x y : D}, akD x y = true → W.alike (py x) (py y) = true
  | .nat i, y, q => by
    cases y with
    | nat j => rw [py, py, W.alike]
    | neg j => rw [py, py, W.alike]
    | _ => cases q
  | .neg i, y, q => by
    cases y with
    | nat j => rw [py, py, W.alike]
    | neg j => rw [py, py, W.alike]
    | _ => cases q
  | .tup p ds, y, q => by
    cases y with
    | tup p' es => rw [py, py, W.alike]; exact akL_true (show akL ds es = true from q)
    | _ => cases q
  | .tpr _, _, q => by cases q
  | .ref _, _, q => by cases q
  | .oth _, _, q => by cases q
theorem akL_true : ∀ {x y : List D}, akL x y = true → PySem.W.alikeAll (pys x) (pys y) = true
  | [], y, q => by rw [pys, W.alikeAll]
  | x :: r, y, q => by
    cases y with
    | nil => rw [pys, pys, W.alikeAll]
    | cons y t =>
      obtain ⟨q1, q2⟩ := bsel_tf (show bsel (akD x y) (akL r t) false = true from q)
      rw [pys, pys, W.alikeAll, akD_true q1, akL_true q2]; rfl
end
mutual
theorem lsD_true : ∀ {x y : D} {p q : Nat}, Pd x p → Pd y q → akD x y = true → lsD x y = true → W.dataLt (py x) (py y) = true
  | _, y, _, _, .nat i, b, a, z => by
    cases b with
    | nat j =>
      rw [py, py, W.dataLt_int]
      exact decide_eq_true (Int.ofNat_lt.mpr (blt_lt (show Nat.blt i j = true from z)))
    | _ => cases z
  | _, y, _, _, .neg i, b, a, z => by
    cases b with
    | nat j =>
      rw [py, py, W.dataLt_int]
      exact decide_eq_true (Int.negSucc_lt_zero i |> fun h => Int.lt_of_lt_of_le h (Int.natCast_nonneg j))
    | neg j =>
      rw [py, py, W.dataLt_int]
      have := blt_lt (show Nat.blt j i = true from z)
      exact decide_eq_true (by omega)
    | _ => cases z
  | _, y, _, _, .tup _ c, b, a, z => by
    cases b with
    | tup _ d =>
      rw [py, py, W.dataLt_tuple]
      exact lsL_true c d a z
    | _ => cases z
  | _, y, _, _, .non, b, a, z => by cases z
  | _, y, _, _, .bl _, b, a, z => by cases z
  | _, y, _, _, .str _ _, b, a, z => by cases z
theorem lsL_true : ∀ {x y : List D} {p q : Nat}, PdS x p → PdS y q → akL x y = true → lsL x y = true → PyProof.Rows.lexLt itemOrd (PySem.W.keyToksAll (pys x)) (PySem.W.keyToksAll (pys y)) = true
  | _, y, _, _, .nil, b, a, z => by
    cases b with
    | nil => cases z
    | cons _ _ _ =>
      rw [pys_nil, pys_cons, W.toks_all_cons]
      rw [show W.keyToksAll [] = [Sum.inl 0] by rw [W.keyToksAll]]
      exact (lex_diff (by intro e; cases e)).trans rfl
  | _, y, _, _, .cons (d := d) (ds := ds) c _ s, b, a, z => by
    cases b with
    | nil => cases z
    | cons c' _ s' =>
      rename_i y t
      obtain ⟨a1, a2⟩ := bsel_tf (show bsel (akD d _) (akL ds _) false = true from a)
      have z' : bsel (eqD d _) (lsL ds _) (lsD d _) = true := z
      rw [eqD_eqv c c'] at z'
      rw [pys_cons, pys_cons]
      cases e : PyData.eqv (py d) (py _) with
      | true =>
        rw [e] at z'
        rw [W.dataLt_all_yes (akD_true a1) e]
        exact lsL_true s s' a2 z'
      | false =>
        rw [e] at z'
        rw [W.dataLt_all_no (akD_true a1) e]
        exact lsD_true c c' a1 z'
end
/-! ### the pure sort -/
def insP (x : D) (l : List D) : List D := match l with
  | [] => [x]
  | y :: r => if lsD x y = true then x :: y :: r else y :: insP x r
def insK (x : D) (l : List D) : (List D → Bool) → Bool := @List.rec D (fun _ => (List D → Bool) → Bool) (fun k => k [x]) (fun y r ih k => bsel (lsD x y) (k (x :: y :: r)) (ih fun z => k (y :: z))) l
theorem insK_eq (x : D) : ∀ (l : List D) (k : List D → Bool), insK x l k = k (insP x l)
  | [], k => rfl
  | y :: r, k => by
    show bsel (lsD x y) (k (x :: y :: r)) (insK x r fun z => k (y :: z)) = _
    unfold insP
    cases lsD x y with
    | true => rfl
    | false => exact insK_eq x r _
theorem insP_perm (x : D) : ∀ l : List D, (insP x l).Perm (x :: l)
  | [] => .refl _
  | y :: r => by
    unfold insP
    cases lsD x y with
    | true => exact .refl _
    | false => exact ((insP_perm x r).cons y).trans (.swap x y r)
def srtK (ds : List D) : List D → (List D → Bool) → Bool := @List.rec D (fun _ => List D → (List D → Bool) → Bool) (fun a k => k a) (fun x _ ih a k => insK x a fun a => ih a k) ds
theorem srtK_perm : ∀ (ds a : List D) (k : List D → Bool), srtK ds a k = true → ∃ l, l.Perm (ds ++ a) ∧ k l = true
  | [], a, k, q => ⟨a, .refl _, q⟩
  | x :: ds, a, k, q => by
    have q' : insK x a (fun a => srtK ds a k) = true := q
    rw [insK_eq] at q'
    obtain ⟨l, h1, h2⟩ := srtK_perm ds _ k q'
    refine ⟨l, h1.trans ?_, h2⟩
    exact ((insP_perm x a).append_left ds).trans List.perm_middle
/-- all alike to x, and not before it -/
def aftA (x : D) (l : List D) : Bool := @List.rec D (fun _ => Bool) true (fun y _ ih => bsel (akD x y) (bsel (bsel (smD x y) true (lsD x y)) ih false) false) l
theorem aftA_true {x : D} : ∀ {l : List D}, aftA x l = true → ∀ y ∈ l, akD x y = true ∧ (x = y ∨ lsD x y = true)
  | [], _, y, hy => nomatch hy
  | z :: l, q, y, hy => by
    obtain ⟨q1, q2⟩ := bsel_tf (show bsel (akD x z) (bsel (bsel (smD x z) true (lsD x z)) (aftA x l) false) false = true from q)
    obtain ⟨q3, q4⟩ := bsel_tf q2
    rcases List.mem_cons.mp hy with e | hy
    · subst e
      refine ⟨q1, ?_⟩
      rcases bsel_true q3 with ⟨e, _⟩ | ⟨_, e⟩
      · exact .inl (smD_true e)
      · exact .inr e
    · exact aftA_true q4 y hy
def ordA (l : List D) : Bool := @List.rec D (fun _ => Bool) true (fun x r ih => bsel (akD x x) (bsel (aftA x r) ih false) false) l
theorem ordA_true : ∀ {l : List D}, ordA l = true → (∀ x ∈ l, akD x x = true) ∧ l.Pairwise fun x y => akD x y = true ∧ (x = y ∨ lsD x y = true)
  | [], _ => And.intro (fun _ h => nomatch h) List.Pairwise.nil
  | x :: l, q => by
    obtain ⟨q1, q2⟩ := bsel_tf (show bsel (akD x x) (bsel (aftA x l) (ordA l) false) false = true from q)
    obtain ⟨q3, q4⟩ := bsel_tf q2
    obtain ⟨h1, h2⟩ := ordA_true q4
    refine ⟨fun y hy => ?_, List.pairwise_cons.mpr ⟨aftA_true q3, h2⟩⟩
    rcases List.mem_cons.mp hy with e | hy
    · rw [e]; exact q1
    · exact h1 y hy
def intsA (l : List D) : Bool := @List.rec D (fun _ => Bool) true (fun x _ ih => dc x (fun _ => ih) (fun _ => ih) pF lF nF aF) l
def tupsA (l : List D) : Bool := @List.rec D (fun _ => Bool) true (fun x _ ih => dc x nF nF (fun _ ds => @List.rec D (fun _ => Bool) false (fun _ _ _ => ih) ds) lF nF aF) l
theorem intsA_true : ∀ {l : List D}, intsA l = true → ∀ x ∈ l, ∃ i, py x = .int i
  | [], _, x, hx => nomatch hx
  | z :: l, q, x, hx => by
    have q' : dc z (fun _ => intsA l) (fun _ => intsA l) pF lF nF aF = true := q
    have z1 : (∃ i, py z = .int i) ∧ intsA l = true := by
      cases z with
      | nat i => exact ⟨⟨_, by rw [py]⟩, q'⟩
      | neg i => exact ⟨⟨_, by rw [py]⟩, q'⟩
      | _ => cases q'
    rcases List.mem_cons.mp hx with e | hx
    · rw [e]; exact z1.1
    · exact intsA_true z1.2 x hx
theorem tupsA_true : ∀ {l : List D}, tupsA l = true → ∀ x ∈ l, ∃ y r, py x = .tuple (y :: r)
  | [], _, x, hx => nomatch hx
  | z :: l, q, x, hx => by
    have q' : dc z nF nF (fun _ ds => @List.rec D (fun _ => Bool) false (fun _ _ _ => tupsA l) ds) lF nF aF = true := q
    have z1 : (∃ y r, py z = .tuple (y :: r)) ∧ tupsA l = true := by
      cases z with
      | tup p ds =>
        cases ds with
        | nil => cases q'
        | cons y r => exact ⟨⟨py y, pys r, by rw [py, pys]⟩, q'⟩
      | _ => cases q'
    rcases List.mem_cons.mp hx with e | hx
    · rw [e]; exact z1.1
    · exact tupsA_true z1.2 x hx

/-! ### there is one such list -/
theorem ord_uniq {α : Type} {lt : α → α → Bool} : ∀ {l m : List α}, l.Perm m → l.Pairwise (fun x y => x = y ∨ lt x y = true) → m.Pairwise (fun x y => lt y x = false) → l = m
  | [], m, p, _, _ => (List.Perm.eq_nil p.symm).symm
  | x :: l, [], p, _, _ => absurd p.length_eq (by simp)
  | x :: l, y :: m, p, hl, hm => by
    have e : x = y := by
      rcases List.mem_cons.mp (p.mem_iff.mpr (List.mem_cons_self (a := y) (l := m))) with e | hy
      · exact e.symm
      · rcases (List.pairwise_cons.mp hl).1 y hy with e | z
        · exact e
        · rcases List.mem_cons.mp (p.mem_iff.mp (List.mem_cons_self (a := x) (l := l))) with e | hx
          · exact e
          · rw [(List.pairwise_cons.mp hm).1 x hx] at z; cases z
    subst e
    rw [ord_uniq p.cons_inv (List.pairwise_cons.mp hl).2 (List.pairwise_cons.mp hm).2]
theorem le_trans {β : Type} {k : β → PyData} (a b c : β) (h1 : W.dataLe false k a b = true) (h2 : W.dataLe false k b c = true) : W.dataLe false k a c = true := by
  rw [W.dataLe_eq] at h1 h2 ⊢
  simp only [cond_false, Bool.not_eq_true'] at h1 h2 ⊢
  cases e : W.dataLt (k c) (k a) with
  | false => rfl
  | true =>
    rcases lex_negTrans _ (W.keyToks (k b)) _ e with z | z
    · rw [show W.dataLt (k c) (k b) = true from z] at h2; cases h2
    · rw [show W.dataLt (k b) (k a) = true from z] at h1; cases h1
theorem le_total {β : Type} {k : β → PyData} (a b : β) : (W.dataLe false k a b || W.dataLe false k b a) = true := by
  rw [W.dataLe_eq]
  simp only [cond_false]
  cases e : W.dataLt (k b) (k a) with
  | false => rfl
  | true =>
    cases e2 : W.dataLt (k a) (k b) with
    | false => rfl
    | true =>
      have z := lex_trans _ _ _ e e2
      rw [lex_irrefl] at z
      cases z

theorem pw_all {α : Type} {R : α → α → Prop} (sy : ∀ x y : α, R x y → R y x) : ∀ {l : List α}, (∀ x ∈ l, R x x) → l.Pairwise R → ∀ x ∈ l, ∀ y ∈ l, R x y
  | [], _, _, x, hx, _, _ => nomatch hx
  | z :: l, h1, h2, x, hx, y, hy => by
    obtain ⟨h3, h4⟩ := List.pairwise_cons.mp h2
    rcases List.mem_cons.mp hx with e | hx2
    · rw [e]
      rcases List.mem_cons.mp hy with e | hy2
      · rw [e]; exact h1 _ List.mem_cons_self
      · exact h3 y hy2
    · rcases List.mem_cons.mp hy with e | hy2
      · rw [e]; exact sy _ _ (h3 x hx2)
      · exact pw_all sy (fun x hx => h1 x (List.mem_cons_of_mem _ hx)) h4 x hx2 y hy2
/-! ### the rule -/
def enc2 (p : V × D) : PyData := py p.2
def rSoD (K : PySem.W.Frag) : List V → Hp → VK → Prop := fun vs H Q => ∃ (a : Addr) (ps : List (V × D)), vs = [.ref a] ∧ SqL K H a (ps.map Prod.fst) ∧ (∀ p ∈ ps, Dp K H p.1 (enc2 p) ∧ (enc2 p).depth ≤ 60) ∧ PySem.W.AllAlike (ps.map enc2) ∧ PySem.W.Sortable (ps.map enc2) ∧
  ∀ q, H q = none → Q (.ref q) (upd H q (.lst ((ps.mergeSort (PySem.W.dataLe false enc2)).map Prod.fst)))
section
variable {X : Cx} {K : PySem.W.Frag} {m m' : Nat → Addr} {h h' : Hv} {H H' : Hp} {es : List D} {σ : L2.St} {v : V} {d : D} {k : KD} {Q : VK} {n : Nat}
theorem each_vals : ∀ {ps : List (V × D)} {us : List Value}, Vals (ps.map Prod.fst) us → PySem.W.EachIs (fun u p => RelV p.1 u) us ps
  | [], _, r => by cases r; exact .nil
  | p :: ps, _, r => by
    cases r with
    | cons r1 r2 => exact .cons r1 (each_vals r2)
theorem vals_each : ∀ {us : List Value} {ps : List (V × D)}, PySem.W.EachIs (fun u p => RelV p.1 u) us ps → Vals (ps.map Prod.fst) us
  | _, _, .nil => .nil
  | _, _, .cons r1 r2 => .cons r1 (vals_each r2)
theorem cr_sortD (hu : X.A.units + 65 < cLine) : CallR X (.builtin "sorted") (rSoD X.K) := by
  intro pins s σ H vs us Q I r q
  obtain ⟨a, ps, rfl, sq, hd, ha, hs, q⟩ := q
  obtain ⟨its, rv, hl, hz⟩ := I.list sq
  obtain ⟨u, rfl, rx⟩ := r.one
  obtain rfl : u = Value.ref a := rx
  rw [List.length_map] at hz
  have e := each_vals rv
  refine PySem.W.sorted_data (vs := its) (bs := ps) (enc := enc2) hl.isList e ((PySem.W.each_mem e).mono fun u p z => Dp.reads I _ _ _ (hd p z.2).1 z.1) ha hs hz (fun b hb => by have := (hd b hb).2; omega) fun out lo eo => ?_
  obtain ⟨ep, he'⟩ := PyProof.Rows.sortedAll_at s.heap its out.toArray
  refine ⟨.ref _, upd H (s.heap.objs.size + 1) (.lst ((ps.mergeSort (PySem.W.dataLe false enc2)).map Prod.fst)), I.laid (t' := s.toks) (fun _ _ => PyProof.Rows.sortedAll_old) (Nat.le_succ _) ⟨?_, out, ep, vals_each eo, he'⟩, rfl, q _ (I.hok.fresh (Nat.le_succ _))⟩
  rw [List.length_map, (List.mergeSort_perm _ _).length_eq]
  exact hz
def sortD (x : D) (h : Hv) (k : KD) : Bool := dc x nF nF pF lF (fun j => seqR j h fun ds => purL ds (bsel (bsel (intsA ds) true (tupsA ds)) (srtK ds [] fun l => bsel (ordA l) (alloc (.lst l) h k) false) false)) aF
theorem zip_rd : ∀ {vs : List V} {ds : List D}, RDs K m H n vs ds → (vs.zip ds).map Prod.fst = vs ∧ (vs.zip ds).map Prod.snd = ds ∧ ∀ p ∈ vs.zip ds, RD K m H n p.1 p.2
  | _, _, .nil => ⟨rfl, rfl, fun _ h => nomatch h⟩
  | _, _, .cons r1 r2 => by
    obtain ⟨h1, h2, h3⟩ := zip_rd r2
    refine ⟨by rw [List.zip_cons_cons, List.map_cons, h1], by rw [List.zip_cons_cons, List.map_cons, h2], fun p hp => ?_⟩
    rcases List.mem_cons.mp hp with e | hp
    · rw [e]; exact r1
    · exact h3 p hp
theorem rds_of : ∀ {ps : List (V × D)}, (∀ p ∈ ps, RD K m H n p.1 p.2) → RDs K m H n (ps.map Prod.fst) (ps.map Prod.snd)
  | [], _ => .nil
  | p :: ps, h => .cons (h p List.mem_cons_self) (rds_of fun q hq => h q (List.mem_cons_of_mem _ hq))
theorem sort_ok : BOk K (ar1 sortD) (rSoD K) := by
  intro m h H es σ vs ds k Q w r0 q p
  obtain ⟨x, dx, rfl, rx, q⟩ := ar1_true r0 q
  clear r0
  cases rx with
  | ref j lj =>
    obtain ⟨ds, vs, u, _, _, q1, hh, rs⟩ := seqR_true w.hs (show seqR j h _ = true from q)
    obtain ⟨q2, hp⟩ := purL_true q1
    obtain ⟨q3, q4⟩ := bsel_tf q2
    obtain ⟨l, pl, q5⟩ := srtK_perm _ _ _ q4
    rw [List.append_nil] at pl
    obtain ⟨q6, q7⟩ := bsel_tf q5
    obtain ⟨a1, a2⟩ := ordA_true q6
    obtain ⟨z1, z2, z3⟩ := zip_rd rs
    have pd : ∀ d ∈ ds, ∃ c, Pd d c ∧ c ≤ 60 := fun d hd => by
      obtain ⟨c, e1, e2⟩ := hp d hd
      have hm : d ∈ (vs.zip ds).map Prod.snd := by rw [z2]; exact hd
      obtain ⟨b, hb, rfl⟩ := List.mem_map.mp hm
      exact ⟨c, (z3 b hb).pd e1, by omega⟩
    have em : (vs.zip ds).map enc2 = ds.map py := by
      have e : (vs.zip ds).map enc2 = ((vs.zip ds).map Prod.snd).map py := by rw [List.map_map]; rfl
      rw [e, z2]
    refine ⟨_, vs.zip ds, rfl, by rw [z1]; exact SqL.of hh, fun b hb => ?_, ?_, ?_, fun a na => ?_⟩
    · have hm : b.2 ∈ ds := by rw [← z2]; exact List.mem_map_of_mem hb
      obtain ⟨c, e1, e2⟩ := pd _ hm
      exact ⟨(z3 b hb).dp e1, Nat.le_trans e1.lay.2 e2⟩
    · rw [em]
      intro d hd d' hd'
      obtain ⟨x, hx, rfl⟩ := List.mem_map.mp hd
      obtain ⟨y, hy, rfl⟩ := List.mem_map.mp hd'
      have hx' := pl.mem_iff.mpr hx
      have hy' := pl.mem_iff.mpr hy
      have sym : ∀ {x y : D}, x ∈ l → y ∈ l → W.alike (py x) (py y) = true := fun {x y} hx hy => by
        exact pw_all (R := fun x y => W.alike (py x) (py y) = true) (fun x y z => by rw [PySem.W.alike_comm]; exact z) (fun x hx => akD_true (a1 x hx)) (a2.imp fun z => akD_true z.1) x hx y hy
      exact sym hx' hy'
    · rw [em]
      rcases bsel_true q3 with ⟨e, _⟩ | ⟨_, e⟩
      · refine .inr fun d hd => ?_
        obtain ⟨x, hx, rfl⟩ := List.mem_map.mp hd
        obtain ⟨i, e2⟩ := intsA_true e x hx
        rw [e2]
        exact And.intro (fun z => by cases z) (fun xs z => by cases z)
      · refine .inl fun d hd => ?_
        obtain ⟨x, hx, rfl⟩ := List.mem_map.mp hd
        exact tupsA_true e x hx
    · have sp := List.mergeSort_perm (vs.zip ds) (W.dataLe false enc2)
      have ss := List.pairwise_mergeSort (le := W.dataLe false enc2) le_trans le_total (vs.zip ds)
      have el : l = ((vs.zip ds).mergeSort (W.dataLe false enc2)).map Prod.snd := by
        refine ord_uniq (lt := fun x y => W.dataLt (py x) (py y)) (pl.trans ?_) ?_ ?_
        · have := (sp.map Prod.snd).symm
          rw [z2] at this
          exact this
        · refine List.Pairwise.imp_of_mem (fun {x y} hx hy z => ?_) a2
          rcases z.2 with e | e
          · exact .inl e
          · obtain ⟨c1, e1, _⟩ := pd x (pl.mem_iff.mp hx)
            obtain ⟨c2, e2, _⟩ := pd y (pl.mem_iff.mp hy)
            exact .inr (lsD_true e1 e2 z.1 e)
        · refine List.pairwise_map.mpr (ss.imp fun {x y} z => ?_)
          rw [W.dataLe_eq] at z
          simpa [enc2] using z
      rw [el] at q7
      exact p.newLst w (rds_of fun b hb => z3 b (sp.mem_iff.mp hb)) q7 a na
  | _ => cases q
end
end Pv
set_option Elab.async false
set_option linter.all false
set_option maxRecDepth 100000
set_option maxHeartbeats 4000000
/-! A law's own helpers: the cells of the script, the box, a draw. -/
noncomputable section
namespace Pv
open PySem PySem.Spec PyProof.Rows L2

/-! ### expressions that give some int, and change nothing -/
def VE (X : Cx) (P : L2.St → Hp → Prop) (e : Expr) (C : Int → Prop) : Prop := PE X e (fun σ H Q => P σ H ∧ ∀ v, C v → Q (.int v) H)
section
variable {X : Cx} {P P' : L2.St → Hp → Prop} {e a b c o : Expr} {A B C : Int → Prop} {pos p : Pos} {x : Str} {R : VK} {rest : List Stmt}
theorem ve_c {i : Int} {j : Nat} : VE X P (.Constant (.int i) j pos) (· = i) := pe_mono pe_int fun σ H Q ⟨_, q⟩ => q i rfl
theorem ve_v (i : Nat) (h : ∀ σ H, P σ H → ∃ n, σ[i]? = some (some (.int n)) ∧ C n) (hx : X.env.scope.names.lookup x = some .local := by rfl) (hN : X.N[i]? = some x := by rfl) (hd : (x == ("__debug__" : Str)) = false := by decide) (hcd : (x == ("__classdict__" : Str)) = false := by decide) : VE X P (.Name x pos) C :=
  pe_mono (pe_var hN (.inl hx) hd hcd) fun σ H Q ⟨p, q⟩ => by
    obtain ⟨n, e, c⟩ := h σ H p
    exact ⟨_, e, q n c⟩
theorem ve_op {op : Operator} {Cd : Int → Int → Prop} {f : Int → Int → Int} (ho : OpR X (binaryOp op) (rI Cd fun i j => .int (f i j))) (ha : VE X P a A) (hb : VE X P b B) (h : ∀ i j, A i → B j → Cd i j ∧ C (f i j)) : VE X P (.BinOp a op b pos) C :=
  pe_mono (pe_op ho ha hb) fun σ H Q ⟨p, q⟩ => ⟨p, fun i hi => ⟨p, fun j hj => ⟨i, j, rfl, rfl, (h i j hi hj).1, q _ (h i j hi hj).2⟩⟩⟩
theorem ve_op0 {op : Operator} {f : Int → Int → Int} (ho : OpR X (binaryOp op) (rI0 fun i j => .int (f i j))) (ha : VE X P a A) (hb : VE X P b B) (h : ∀ i j, A i → B j → C (f i j)) : VE X P (.BinOp a op b pos) C :=
  pe_mono (pe_op ho ha hb) fun σ H Q ⟨p, q⟩ => ⟨p, fun i hi => ⟨p, fun j hj => ⟨i, j, rfl, rfl, q _ (h i j hi hj)⟩⟩⟩
theorem ve_int (hm : X.mg "int" = none) (ha : VE X P a A) (hg : Gl X "int" := by rfl) (he : starEach [a] X.env = (false, eval a X.env) :: starEach [] X.env := by rfl) (hpl : (backTo pos (starEach [] X.env)).any (·.1) = false := by rfl) : VE X P (.Call (.Name "int" p) [a] [] pos) A :=
  pe_mono (pe_callTy call_int1 hg hm boot_int (pa_cons ha pa_nil he) (by decide) (by decide) he hpl) fun σ H Q ⟨p, q⟩ => ⟨p, fun i hi => .inl ⟨i, rfl, q i hi⟩⟩
theorem ve_abs (hm : X.mg "abs" = none) (ha : VE X P a A) (hg : Gl X "abs" := by rfl) (he : starEach [a] X.env = (false, eval a X.env) :: starEach [] X.env := by rfl) (hpl : (backTo pos (starEach [] X.env)).any (·.1) = false := by rfl) : VE X P (.Call (.Name "abs" p) [a] [] pos) (0 ≤ ·) :=
  pe_mono (pe_callB call_abs hg hm boot_abs (pa_cons ha pa_nil he) (by decide) (by decide) he hpl) fun σ H Q ⟨p, q⟩ => ⟨p, fun i hi => ⟨i, rfl, q _ (by show 0 ≤ if i < 0 then -i else i; split <;> omega)⟩⟩
theorem ve_intB {p1 : Pos} (hm : X.mg "int" = none) (ha : VE X P a A) (hb : VE X P b B) (hg : Gl X "int" := by rfl)
    (he : starEach [.Compare a [.GtE] [b] p1] X.env = (false, eval (.Compare a [.GtE] [b] p1) X.env) :: starEach [] X.env := by rfl) (hpl : (backTo pos (starEach [] X.env)).any (·.1) = false := by rfl) : VE X P (.Call (.Name "int" p) [.Compare a [.GtE] [b] p1] [] pos) (fun v => v = 0 ∨ v = 1) :=
  pe_mono (pe_callTy call_int1 hg hm boot_int (pa_cons (pe_cmp (pc_ge ha hb)) pa_nil he) (by decide) (by decide) he hpl) fun σ H Q ⟨p, q⟩ => ⟨p, fun i hi => ⟨p, fun j hj => ⟨i, j, rfl, rfl, .inr ⟨_, rfl, q _ (by by_cases z : j ≤ i <;> simp [z])⟩⟩⟩⟩
theorem ve_ix (i : Nat) {k : Int} {j : Nat} {p1 p2 p3 : Pos} (h : ∀ σ H, P σ H → ∃ a xs n, σ[i]? = some (some (.ref a)) ∧ SqL X.K H a xs ∧ atI xs k = some (.int n) ∧ C n) (hx : X.env.scope.names.lookup x = some .local := by rfl) (hN : X.N[i]? = some x := by rfl) (hd : (x == ("__debug__" : Str)) = false := by decide) (hcd : (x == ("__classdict__" : Str)) = false := by decide) :
    VE X P (.Subscript (.Name x p1) (.Constant (.int k) j p2) p3) C :=
  pe_mono (pe_ix ix_seq (pe_var hN (.inl hx) hd hcd) pe_int (fun _ _ => rfl)) fun σ H Q ⟨p, q⟩ => by
    obtain ⟨a, xs, n, e1, e2, e3, e4⟩ := h σ H p
    exact ⟨_, e1, .inl ⟨a, xs, k, _, rfl, rfl, e2, e3, q n e4⟩⟩
theorem ve_ixv (i : Nat) {p1 p3 : Pos} (ho : ∀ σ H, P σ H → ∃ a xs, σ[i]? = some (some (.ref a)) ∧ SqL X.K H a xs ∧ ∀ k, B k → ∃ n, atI xs k = some (.int n) ∧ C n) (hb : VE X P b B) (hs : PlainIx b := by intro _ _; rfl) (hx : X.env.scope.names.lookup x = some .local := by rfl) (hN : X.N[i]? = some x := by rfl) (hd : (x == ("__debug__" : Str)) = false := by decide) (hcd : (x == ("__classdict__" : Str)) = false := by decide) :
    VE X P (.Subscript (.Name x p1) b p3) C :=
  pe_mono (pe_ix ix_seq (pe_var hN (.inl hx) hd hcd) hb hs) fun σ H Q ⟨p, q⟩ => by
    obtain ⟨a, xs, e1, e2, e3⟩ := ho σ H p
    refine ⟨_, e1, p, fun k hk => ?_⟩
    obtain ⟨n, e4, e5⟩ := e3 k hk
    exact .inl ⟨a, xs, k, _, rfl, rfl, e2, e4, q n e5⟩
/-! ### statements -/
def Ho (X : Cx) (P : L2.St → Hp → Prop) (st : Stmt) (P' : L2.St → Hp → Prop) : Prop := PS X st (fun D σ H => P σ H ∧ ∀ σ' H', P' σ' H' → D.nx σ' H')
def Fi (X : Cx) (P : L2.St → Hp → Prop) (st : List Stmt) (R : VK) : Prop := PSs X st (fun D σ H => P σ H ∧ ∀ v H', R v H' → D.rt v H')
theorem fi_cons {st : Stmt} (h1 : Ho X P st P') (h2 : Fi X P' rest R) : Fi X P (st :: rest) R :=
  pss_mono (pss_cons h1 h2) fun D σ H ⟨p, q⟩ => ⟨p, fun σ' H' p' => ⟨p', q⟩⟩
theorem fi_ret (he : VE X P e C) (h : ∀ σ H v, P σ H → C v → R (.int v) H) : Fi X P [.Return (some e) pos] R :=
  pss_mono (pss_one (ps_ret he)) fun D σ H ⟨p, q⟩ => ⟨p, fun v hv => q _ _ (h σ H v p hv)⟩
theorem fi_retV (i : Nat) (h : ∀ σ H, P σ H → ∃ v, σ[i]? = some (some v) ∧ R v H) (hx : X.env.scope.names.lookup x = some .local := by rfl) (hN : X.N[i]? = some x := by rfl) (hd : (x == ("__debug__" : Str)) = false := by decide) (hcd : (x == ("__classdict__" : Str)) = false := by decide) : Fi X P [.Return (some (.Name x p)) pos] R :=
  pss_mono (pss_one (ps_ret (pe_var hN (.inl hx) hd hcd))) fun D σ H ⟨p, q⟩ => by
    obtain ⟨v, e1, e2⟩ := h σ H p
    exact ⟨v, e1, q _ _ e2⟩
theorem fi_ifGt {A' : List Stmt} {p1 : Pos} (ha : VE X P a A) (hb : VE X P b B) (h1 : Fi X P A' R) (h2 : Fi X P rest R) : Fi X P (.If (.Compare a [.Gt] [b] p1) A' [] pos :: rest) R :=
  pss_mono (pss_cons (ps_if (pt_cmp (pc_gt ha hb)) h1 pss_nil) h2) fun D σ H ⟨p, q⟩ => ⟨p, fun i hi => ⟨p, fun j hj => ⟨i, j, rfl, rfl, _, rfl, by
    show (if decide (j < i) = true then _ else _)
    by_cases z : j < i
    · rw [if_pos (decide_eq_true z)]; exact ⟨p, q⟩
    · rw [if_neg (by simpa using z)]; exact ⟨p, q⟩⟩⟩⟩
theorem ho_set (i : Nat) (hN : X.N.Nodup) (he : VE X P e C) (h : ∀ σ H v, P σ H → C v → P' (σ.set i (some (.int v))) H) (hx : X.env.scope.names.lookup x = some .local := by rfl) (hi : X.N[i]? = some x := by rfl) (hs : swapsWith e (some (.Name x p)) pos.line X.env = pure false := by rfl) (hf : X.fn x = true := by rfl) : Ho X P (.Assign [.Name x p] e pos) P' :=
  ps_mono (ps_set hN hi (.inl hx) he hs (.inl hf)) fun D σ H ⟨p, q⟩ => ⟨p, fun v hv => q _ _ (h σ H v p hv)⟩
/-- o[i] = e -/
theorem ho_sub (i : Nat) {tp p1 : Pos} (he : VE X P e C) (hb : VE X P b B) (h0 : ∀ σ H, P σ H → ∃ a, σ[i]? = some (some (.ref a)) ∧ ∀ v k, C v → B k → ∃ xs j, H a = some (.lst xs) ∧ ixN xs.length k = some j ∧ P' σ (upd H a (.lst (xs.set j (.int v)))))
    (hx : X.env.scope.names.lookup x = some .local := by rfl) (hN : X.N[i]? = some x := by rfl) (hd : (x == ("__debug__" : Str)) = false := by decide) (hcd : (x == ("__classdict__" : Str)) = false := by decide)
    (hasg : ∀ v, assign (.Subscript (.Name x p1) b tp) X.env v = (do
      let ov ← holding [v] (eval (.Name x p1) X.env)
      let iv ← holding [v, ov] (eval b X.env)
      standAt tp
      holding [v, ov, iv] (setItem ov iv v)
      release [v, ov, iv] []) := by intro _; rfl)
    (hs : swapsWithSole [.Subscript (.Name x p1) b tp] e pos.line X.env = pure false := by rfl) (hw : swappedStores [.Subscript (.Name x p1) b tp] e X.env = pure none := by rfl) (h1 : (assignEach [.Subscript (.Name x p1) b tp] X.env).map (·.2) = [assign (.Subscript (.Name x p1) b tp) X.env] := by rfl) : Ho X P (.Assign [.Subscript (.Name x p1) b tp] e pos) P' :=
  ps_mono (ps_asg he (pg_sub (pe_var hN (.inl hx) hd hcd) hb set_list hasg) hs hw h1) fun D σ H ⟨p, q⟩ => by
    obtain ⟨a, e1, h⟩ := h0 σ H p
    refine ⟨p, fun v hv => ⟨_, e1, p, fun k hk => ?_⟩⟩
    obtain ⟨xs, j, e2, e3, e4⟩ := h v k hv hk
    exact ⟨a, xs, k, j, rfl, rfl, e2, e3, q _ _ e4⟩
/-- statements one after the other -/
def Hs (X : Cx) (P : L2.St → Hp → Prop) (st : List Stmt) (P' : L2.St → Hp → Prop) : Prop := PSs X st (fun D σ H => P σ H ∧ ∀ σ' H', P' σ' H' → D.nx σ' H')
theorem hs_one {st : Stmt} (h : Ho X P st P') : Hs X P [st] P' := pss_one h
theorem hs_cons {st : Stmt} {P2 : L2.St → Hp → Prop} (h1 : Ho X P st P') (h2 : Hs X P' rest P2) : Hs X P (st :: rest) P2 :=
  pss_mono (pss_cons h1 h2) fun D σ H ⟨p, q⟩ => ⟨p, fun σ' H' p' => ⟨p', q⟩⟩
theorem ve_mono (h : ∀ σ H, P' σ H → P σ H) (he : VE X P e C) : VE X P' e C := pe_mono he fun σ H Q ⟨p, q⟩ => ⟨h σ H p, q⟩

/-! ### a draw -/
def PT (a : Addr) (y t : Int) (b : Int) (H0 : Hp) (L : List Nat) (σ : L2.St) (H : Hp) : Prop :=
  σ.length = 6 ∧ σ[0]? = some (some (.ref a)) ∧ σ[1]? = some (some (.int b)) ∧ (∃ x z : Int, 0 ≤ x ∧ 0 ≤ z ∧ z ≤ t ∧ H = upd H0 a (.lst [.int x, .int y, .int z])) ∧ ∀ k ∈ L, ∃ i : Int, σ[k]? = some (some (.int i)) ∧ 0 ≤ i ∧ i < 2 ^ 62
variable {ad l : Addr} {y t b' : Int} {H0 : Hp} {L : List Nat} {K : PySem.W.Frag}
theorem PT.i0 : ∀ σ H, PT ad y t b' H0 L σ H → ∃ a xs n, σ[0]? = some (some (.ref a)) ∧ SqL K H a xs ∧ atI xs 0 = some (.int n) ∧ 0 ≤ n := by
  rintro σ H ⟨_, e, _, ⟨x, z, hx, _, _, rfl⟩, _⟩
  exact ⟨ad, _, x, e, SqL.of upd_same, rfl, hx⟩
theorem PT.i1 : ∀ σ H, PT ad y t b' H0 L σ H → ∃ a xs n, σ[0]? = some (some (.ref a)) ∧ SqL K H a xs ∧ atI xs 1 = some (.int n) ∧ n = y := by
  rintro σ H ⟨_, e, _, ⟨x, z, hx, _, _, rfl⟩, _⟩
  exact ⟨ad, _, y, e, SqL.of upd_same, rfl, rfl⟩
theorem PT.i2 : ∀ σ H, PT ad y t b' H0 L σ H → ∃ a xs n, σ[0]? = some (some (.ref a)) ∧ SqL K H a xs ∧ atI xs 2 = some (.int n) ∧ (0 ≤ n ∧ n ≤ t) := by
  rintro σ H ⟨_, e, _, ⟨x, z, hx, z0, zt, rfl⟩, _⟩
  exact ⟨ad, _, z, e, SqL.of upd_same, rfl, z0, zt⟩
theorem PT.vb : ∀ σ H, PT ad y t b' H0 L σ H → ∃ n, σ[1]? = some (some (.int n)) ∧ n = b' := fun σ H p => ⟨b', p.2.2.1, rfl⟩
theorem PT.vl {k : Nat} (h : k ∈ L) : ∀ σ H, PT ad y t b' H0 L σ H → ∃ n, σ[k]? = some (some (.int n)) ∧ (0 ≤ n ∧ n < 2 ^ 62) := fun σ H p => p.2.2.2.2 k h
theorem PT.set {k : Nat} (h2 : 2 ≤ k) (h6 : k < 6) : ∀ σ H v, PT ad y t b' H0 L σ H → (0 ≤ v ∧ v < 2 ^ 62) → PT ad y t b' H0 (k :: L) (σ.set k (some (.int v))) H := by
  rintro σ H v ⟨e0, e1, e2, e3, e4⟩ ⟨v0, v1⟩
  refine ⟨by rw [List.length_set]; exact e0, by rw [List.getElem?_set_ne (by omega)]; exact e1, by rw [List.getElem?_set_ne (by omega)]; exact e2, e3, fun j hj => ?_⟩
  by_cases ej : j = k
  · rw [ej]
    exact ⟨v, by rw [List.getElem?_set_self (by omega)], v0, v1⟩
  · rw [List.getElem?_set_ne (Ne.symm ej)]
    rcases List.mem_cons.mp hj with z | z
    · exact absurd z ej
    · exact e4 j z
theorem PT.sub2 {t' : Int} : ∀ σ H, PT ad y t b' H0 L σ H → ∃ a, σ[0]? = some (some (.ref a)) ∧ ∀ v k, (0 ≤ v ∧ v ≤ t') → k = 2 → ∃ xs j, H a = some (.lst xs) ∧ ixN xs.length k = some j ∧ PT ad y t' b' H0 L σ (upd H a (.lst (xs.set j (.int v)))) := by
  rintro σ H ⟨e0, e1, e2, ⟨x, z, hx, _, _, rfl⟩, e4⟩
  refine ⟨ad, e1, fun v k hv hk => ?_⟩
  subst hk
  refine ⟨_, 2, upd_same, rfl, e0, e1, e2, ⟨x, v, hx, hv.1, hv.2, ?_⟩, e4⟩
  rw [upd_upd]; rfl
def RT (a : Addr) (y t : Int) (b : Int) (H0 : Hp) : VK := fun v H => ∃ r x z : Int, v = .int r ∧ 0 ≤ r ∧ r < b ∧ 0 ≤ x ∧ 0 ≤ z ∧ z ≤ t ∧ H = upd H0 a (.lst [.int x, .int y, .int z])
theorem PT.ret {t' : Int} (ht : t ≤ t') : ∀ σ H v, PT ad y t b' H0 L σ H → (0 ≤ v ∧ v < b') → RT ad y t' b' H0 (.int v) H := by
  rintro σ H v ⟨_, _, _, ⟨x, z, hx, z0, zt, e⟩, _⟩ hv
  exact ⟨v, x, z, rfl, hv.1, hv.2, hx, z0, by omega, e⟩
/-- with the drawn number in its slot -/
def PTd (a : Addr) (y t : Int) (b : Int) (H0 : Hp) (σ : L2.St) (H : Hp) : Prop := PT a y t b H0 [] σ H ∧ ∃ r : Int, σ[2]? = some (some (.int r)) ∧ 0 ≤ r ∧ r < b
theorem PTd.mk : ∀ σ H v, PT ad y t b' H0 [] σ H → (0 ≤ v ∧ v < b') → PTd ad y t b' H0 (σ.set 2 (some (.int v))) H := by
  rintro σ H v ⟨e0, e1, e2, e3, e4⟩ hv
  exact ⟨⟨by rw [List.length_set]; exact e0, by rw [List.getElem?_set_ne (by omega)]; exact e1, by rw [List.getElem?_set_ne (by omega)]; exact e2, e3, fun j hj => nomatch hj⟩, v, by rw [List.getElem?_set_self (by omega)], hv.1, hv.2⟩
theorem PTd.sub : ∀ σ H, PTd ad y t b' H0 σ H → ∃ a, σ[0]? = some (some (.ref a)) ∧ ∀ v k, 0 ≤ v → k = 0 → ∃ xs j, H a = some (.lst xs) ∧ ixN xs.length k = some j ∧ PTd ad y t b' H0 σ (upd H a (.lst (xs.set j (.int v)))) := by
  rintro σ H ⟨⟨e0, e1, e2, ⟨x, z, hx, z0, zt, rfl⟩, e4⟩, r⟩
  refine ⟨ad, e1, fun v k hv hk => ?_⟩
  subst hk
  refine ⟨_, 0, upd_same, rfl, ⟨e0, e1, e2, ⟨v, z, hv, z0, zt, ?_⟩, e4⟩, r⟩
  rw [upd_upd]; rfl
theorem PTd.ret {t' : Int} (ht : t ≤ t') : ∀ σ H, PTd ad y t b' H0 σ H → ∃ v, σ[2]? = some (some v) ∧ RT ad y t' b' H0 v H := by
  rintro σ H ⟨p, r, e, h0, h1⟩
  exact ⟨_, e, p.ret ht σ H r ⟨h0, h1⟩⟩
theorem upd_id {H : Hp} {a : Addr} {o : HO} (h : H a = some o) : upd H a o = H := by
  funext b
  by_cases e : b = a
  · rw [e, upd_same, h]
  · rw [upd_ne e]
/-- all draws below b -/
def allR (b : Nat) (k : Nat → Bool) : Bool := @Nat.rec (fun _ => Bool) true (fun r ih => bsel (k r) ih false) b
theorem allR_true : ∀ {b : Nat} {k : Nat → Bool}, allR b k = true → ∀ r, r < b → k r = true
  | 0, _, _, r, h => absurd h (Nat.not_lt_zero _)
  | b + 1, k, q, r, h => by
    obtain ⟨q1, q2⟩ := bsel_tf (show bsel (k b) (allR b k) false = true from q)
    by_cases e : r = b
    · rw [e]; exact q1
    · exact allR_true q2 r (by omega)
theorem allR_of : ∀ {b : Nat} {k : Nat → Bool}, (∀ r, r < b → k r = true) → allR b k = true
  | 0, _, _ => rfl
  | b + 1, k, h => by
    show bsel (k b) (allR b k) false = true
    rw [h b (Nat.lt_succ_self b), allR_of fun r hr => h r (Nat.lt_succ_of_lt hr)]; rfl
def takD : MF := fun ds h k => @List.rec D (fun _ => Bool) false (fun x r _ => @List.rec D (fun _ => Bool) false (fun y _ _ => dc x nF nF pF lF (fun j => look h.m j fun o => @LO.rec (fun _ => Bool) (fun _ => false) (fun _ _ => false) (dc y (fun b => bsel (Nat.blt b 1000000) (bsel (Nat.blt h.n 1000000000000) (bsel (Nat.blt 0 b) (allR b fun r => fN r fun r => k (.nat r) ⟨Nat.succ h.n, h.m⟩) false) false) false) nF pF lF nF aF) o) aF) r) ds
theorem tin_next {m : Nat → Addr} {h : Hv} {H : Hp} {j : Nat} {x y z : Int} (w : HS K m h H) (q : lk h.m j = some .tin) (t : TinOk (h.n + 1) x y z) : HS K m ⟨h.n + 1, h.m⟩ (upd H (m j) (.lst [.int x, .int y, .int z])) ∧ Ext m h H m ⟨h.n + 1, h.m⟩ (upd H (m j) (.lst [.int x, .int y, .int z])) := by
  have lj : Pv.live h.m j := by unfold Pv.live; rw [q]; rfl
  have ex : Ext m h H m ⟨h.n + 1, h.m⟩ (upd H (m j) (.lst [.int x, .int y, .int z])) := by
    refine ⟨Nat.le_succ _, fun _ _ => rfl, fun a ob e z => ⟨?_, z⟩, fun i y => y⟩
    rw [upd_ne (Ne.symm (z j lj))]; exact e
  refine ⟨⟨fun i o e => ?_, w.inj, w.srt⟩, ex⟩
  obtain ⟨l, od⟩ := w.obj i o e
  refine ⟨Nat.lt_succ_of_lt l, ?_⟩
  by_cases hi : i = j
  · subst hi
    rw [q] at e
    cases e
    exact ⟨x, y, z, t, upd_same⟩
  · have hne : m i ≠ m j := fun z => hi (w.inj i j (by unfold Pv.live; rw [e]; rfl) lj z)
    cases o with
    | lst ds => obtain ⟨vs, r, s⟩ := od; exact ⟨vs, by rw [upd_ne hne]; exact r, s.mono ex w⟩
    | dct ks vs => exact DctOk.mono (h' := ⟨h.n + 1, h.m⟩) ex w od hne
    | tin => obtain ⟨x, y, zz, nn, r⟩ := od; exact ⟨x, y, zz, nn.succ, by rw [upd_ne hne]; exact r⟩
/-- what the walk of a draw's body gives, as a callable -/
theorem fn_take {P : Program} {w : World} {mg : Str → Option Value} {base : Heap} {x qual : Str} {params : Arguments} {body : List Stmt} {scope : Scope} {f : Addr} {fd : FuncData} {N ps : List Str}
    (F : FunD K x qual params body scope [] [] f fd) (S : FnScope N ps scope) (hL : ps.length = 2) (hl : N.length = 6)
    (hb : ∀ (cdv : Value) (A : Around) (outer : List Env) (s : Shared) (H : Hp) (E : XK), Room 1 (A.deeper (envOfC qual scope s.heap.objs.size f cdv)) → ∀ (a : Addr) (y t b : Int) (H0 : Hp), 0 ≤ y → y < 2 ^ 62 → 0 ≤ t → t < 1000000000000 → 0 < b → b < 1000000 →
      Fi (cxOf CX0 P w K mg base N qual scope f cdv A outer s H E).nox (PT a y t b H0 []) body (RT a y (t + 1) b H0)) :
    FnOk P w K mg base CX0 2 f fd ps (spC K 2 takD) := by
  refine F.ok S (fun vs H Q E q => by rw [hL]; exact q.1) fun cdv A outer s H vs Q E hr q => ?_
  obtain ⟨hv, m, h, ds, k, hs, r, q, p⟩ := q
  cases r with
  | nil => cases q
  | cons rx r =>
    rename_i v d vs ds
    cases r with
    | nil => cases q
    | cons ry r =>
      rename_i u e vs ds
      have e0 : vs = [] := by
        have : (v :: u :: vs).length = 2 := hv
        simp at this
        exact this
      subst e0
      cases rx with
      | ref j lj =>
        have q' : (look h.m j fun o => @LO.rec (fun _ => Bool) (fun _ => false) (fun _ _ => false) (dc e (fun b => bsel (Nat.blt b 1000000) (bsel (Nat.blt h.n 1000000000000) (bsel (Nat.blt 0 b) (allR b fun r => fN r fun r => k (.nat r) ⟨Nat.succ h.n, h.m⟩) false) false) false) nF pF lF nF aF) o) = true := q
        obtain ⟨o, eo, q1⟩ := look_true q'
        cases o with
        | lst _ => cases q1
        | dct _ _ => cases q1
        | tin =>
          cases ry with
          | nat b =>
            obtain ⟨b1, q2⟩ := bsel_tf (show bsel (Nat.blt b 1000000) (bsel (Nat.blt h.n 1000000000000) (bsel (Nat.blt 0 b) (allR b fun r => fN r fun r => k (.nat r) ⟨Nat.succ h.n, h.m⟩) false) false) false = true from q1)
            obtain ⟨n1, q3⟩ := bsel_tf q2
            obtain ⟨b0, q3⟩ := bsel_tf q3
            have b0 := blt_lt b0
            obtain ⟨_, x, y, z, tk, hh⟩ := hs.obj j .tin eo
            refine ⟨_, (hb cdv A outer s H E hr (m j) y h.n b H tk.2.1 tk.2.2.1 (Int.natCast_nonneg _) (by have := blt_lt n1; omega) (by omega) (by have := blt_lt b1; omega)).nox, ⟨?_, fun v H' rt => ?_⟩⟩
            · refine ⟨?_, rfl, rfl, ⟨x, z, tk.1, tk.2.2.2.1, tk.2.2.2.2, (upd_id hh).symm⟩, fun k hk => nomatch hk⟩
              unfold L2.start
              rw [List.length_append, List.length_map, List.length_replicate, hv, hl]
            · obtain ⟨r, x', z', rfl, r0, rb, x0, z0, zt, rfl⟩ := rt
              obtain ⟨w', ex⟩ := tin_next (x := x') (y := y) (z := z') hs eo ⟨x0, tk.2.1, tk.2.2.1, z0, by show z' ≤ ((h.n + 1 : Nat) : Int); omega⟩
              have rr := allR_true q3 r.toNat (by omega)
              rw [fN_eq] at rr
              have er : Int.ofNat r.toNat = r := Int.toNat_of_nonneg r0
              have rd : RD K m (upd H (m j) (.lst [.int x', .int y, .int z'])) (h.n + 1) (.int r) (.nat r.toNat) := by
                have := RD.nat (K := K) (m := m) (H := upd H (m j) (.lst [.int x', .int y, .int z'])) (n := h.n + 1) r.toNat
                rw [er] at this
                exact this
              exact p _ m ⟨h.n + 1, h.m⟩ _ (.nat r.toNat) ex w' rd rr
          | _ => cases q1
      | _ => cases q

/-! ### the box -/
def spBox (K : PySem.W.Frag) : Sp := fun vs H Q _ => ∃ (l : Addr) (c : Int), vs = [.ref l, .int 0] ∧ H l = some (.lst [.int c]) ∧ ∀ p x y, H p = none → TinOk 0 x y 0 → Q (.ref p) (upd H p (.lst [.int x, .int y, .int 0]))
def PB (l : Addr) (c : Int) (H0 : Hp) (L : List Nat) (σ : L2.St) (H : Hp) : Prop := σ.length = 3 ∧ σ[0]? = some (some (.ref l)) ∧ σ[1]? = some (some (.int 0)) ∧ H = H0 ∧ H0 l = some (.lst [.int c]) ∧ ∀ k ∈ L, ∃ i : Int, σ[k]? = some (some (.int i))
variable {cc : Int}
theorem PB.vk : ∀ σ H, PB l cc H0 L σ H → ∃ n, σ[1]? = some (some (.int n)) ∧ n = 0 := fun σ H p => ⟨0, p.2.2.1, rfl⟩
theorem PB.vl {k : Nat} (h : k ∈ L) : ∀ σ H, PB l cc H0 L σ H → ∃ n, σ[k]? = some (some (.int n)) ∧ True := fun σ H p => by
  obtain ⟨i, e⟩ := p.2.2.2.2.2 k h
  exact ⟨i, e, trivial⟩
theorem PB.ix : ∀ σ H, PB l cc H0 L σ H → ∃ a xs, σ[0]? = some (some (.ref a)) ∧ SqL K H a xs ∧ ∀ k, k = 0 → ∃ n, atI xs k = some (.int n) ∧ True := by
  rintro σ H ⟨_, e, _, rfl, hh, _⟩
  exact ⟨l, _, e, SqL.of hh, fun k hk => ⟨cc, by rw [hk]; rfl, trivial⟩⟩
theorem PB.ln : ∀ σ H, PB l cc H0 L σ H → ∃ a xs, σ[0]? = some (some (.ref a)) ∧ SqL K H a xs := by
  rintro σ H ⟨_, e, _, rfl, hh, _⟩
  exact ⟨l, _, e, SqL.of hh⟩
theorem PB.set : ∀ σ H v, PB l cc H0 [] σ H → True → PB l cc H0 [2] (σ.set 2 (some (.int v))) H := by
  rintro σ H v ⟨e0, e1, e2, e3, e4, _⟩ _
  exact ⟨by rw [List.length_set]; exact e0, by rw [List.getElem?_set_ne (by omega)]; exact e1, by rw [List.getElem?_set_ne (by omega)]; exact e2, e3, e4, fun j hj => ⟨v, by rw [List.mem_singleton.mp hj, List.getElem?_set_self (by omega)]⟩⟩
theorem ve_len (i : Nat) {p1 : Pos} (hm : X.mg "len" = none) (h : ∀ σ H, P σ H → ∃ a xs, σ[i]? = some (some (.ref a)) ∧ SqL X.K H a xs) (hx : X.env.scope.names.lookup x = some .local := by rfl) (hN : X.N[i]? = some x := by rfl) (hg : Gl X "len" := by rfl)
    (he : starEach [.Name x p1] X.env = (false, eval (.Name x p1) X.env) :: starEach [] X.env := by rfl) (hpl : (backTo pos (starEach [] X.env)).any (·.1) = false := by rfl) (hd : (x == ("__debug__" : Str)) = false := by decide) (hcd : (x == ("__classdict__" : Str)) = false := by decide) : VE X P (.Call (.Name "len" p) [.Name x p1] [] pos) (fun _ => True) :=
  pe_mono (pe_callB call_len hg hm boot_len (pa_cons (pe_var hN (.inl hx) hd hcd) pa_nil he) (by decide) (by decide) he hpl) fun σ H Q ⟨p, q⟩ => by
    obtain ⟨a, xs, e1, e2⟩ := h σ H p
    exact ⟨_, e1, _, xs.length, rfl, .inl ⟨xs, e2, rfl⟩, q _ trivial⟩
theorem ve_ifLt {u v : Expr} {p1 : Pos} (ha : VE X P a A) (hb : VE X P b B) (hu : VE X P u C) (hv : VE X P v C) : VE X P (.IfExp (.Compare a [.Lt] [b] p1) u v pos) C :=
  pe_mono (pe_ifExp (pt_cmp (pc_lt ha hb)) hu hv) fun σ H Q ⟨p, q⟩ => ⟨p, fun i hi => ⟨p, fun j hj => ⟨i, j, rfl, rfl, _, rfl, by
    show (if decide (i < j) = true then _ else _)
    by_cases z : i < j
    · rw [if_pos (decide_eq_true z)]; exact ⟨p, q⟩
    · rw [if_neg (by simpa using z)]; exact ⟨p, q⟩⟩⟩⟩
theorem ve_weak {C' : Int → Prop} (he : VE X P e C) (h : ∀ v, C v → C' v) : VE X P e C' := pe_mono he fun σ H Q ⟨p, q⟩ => ⟨p, fun v hv => q v (h v hv)⟩
theorem fi_ret3 {e1 e2 e3 : Expr} {C1 C2 C3 : Int → Prop} (h1 : VE X P e1 C1) (h2 : VE X P e2 C2) (h3 : VE X P e3 C3) (h : ∀ σ H x y z q, P σ H → C1 x → C2 y → C3 z → H q = none → R (.ref q) (upd H q (.lst [.int x, .int y, .int z])))
    (s1 : starEach [e1, e2, e3] X.env = (false, eval e1 X.env) :: starEach [e2, e3] X.env := by rfl) (s2 : starEach [e2, e3] X.env = (false, eval e2 X.env) :: starEach [e3] X.env := by rfl) (s3 : starEach [e3] X.env = (false, eval e3 X.env) :: starEach [] X.env := by rfl) : Fi X P [.Return (some (.List [e1, e2, e3] p)) pos] R :=
  pss_mono (pss_one (ps_ret (pe_lst (pa_cons h1 (pa_cons h2 (pa_cons h3 pa_nil s3) s2) s1)))) fun D σ H ⟨p, q⟩ => ⟨p, fun x hx => ⟨p, fun y hy => ⟨p, fun z hz => ⟨by show 3 ≤ sizeLine; decide, fun a na => q _ _ (h σ H x y z a p hx hy hz na)⟩⟩⟩⟩
def RB (H0 : Hp) : VK := fun v H => ∃ q x y, v = .ref q ∧ H0 q = none ∧ TinOk 0 x y 0 ∧ H = upd H0 q (.lst [.int x, .int y, .int 0])
theorem PB.ret : ∀ σ H x y z q, PB l cc H0 L σ H → 0 ≤ x → (0 ≤ y ∧ y < 2 ^ 62) → z = 0 → H q = none → RB H0 (.ref q) (upd H q (.lst [.int x, .int y, .int z])) := by
  rintro σ H x y z q ⟨_, _, _, rfl, _, _⟩ hx hy rfl hq
  exact ⟨q, x, y, rfl, hq, ⟨hx, hy.1, hy.2, Int.le_refl _, Int.le_refl _⟩, rfl⟩
theorem fn_box {P : Program} {w : World} {mg : Str → Option Value} {base : Heap} {x qual : Str} {params : Arguments} {body : List Stmt} {scope : Scope} {f : Addr} {fd : FuncData} {N ps : List Str}
    (F : FunD K x qual params body scope [] [] f fd) (S : FnScope N ps scope) (hL : ps.length = 2) (hl : N.length = 3)
    (hb : ∀ (cdv : Value) (A : Around) (outer : List Env) (s : Shared) (H : Hp) (E : XK), ∀ (l : Addr) (c : Int) (H0 : Hp), Fi (cxOf CX0 P w K mg base N qual scope f cdv A outer s H E).nox (PB l c H0 []) body (RB H0)) :
    FnOk P w K mg base CX0 1 f fd ps (spBox K) := by
  refine F.ok S (fun vs H Q E q => ?_) fun cdv A outer s H vs Q E hr q => ?_
  · obtain ⟨l, c, rfl, _⟩ := q
    rw [hL]; rfl
  · obtain ⟨l, c, rfl, hh, q⟩ := q
    refine ⟨_, (hb cdv A outer s H E l c H).nox, ⟨⟨?_, rfl, rfl, rfl, hh, fun k hk => nomatch hk⟩, fun v H' rt => ?_⟩⟩
    · unfold L2.start
      rw [List.length_append, List.length_map, List.length_replicate, hl]; rfl
    · obtain ⟨p, x, y, rfl, hp, t, rfl⟩ := rt
      exact q p x y hp t

/-! ### the cells -/
def spCells (K : PySem.W.Frag) : Sp := fun vs H Q _ => ∃ (l : Addr) (ns : List Int), vs = [.ref l, .int 1] ∧ SqL K H l (ns.map V.int) ∧ ns.length ≤ 63 ∧ ∀ p c H', (∀ q o, H q = some o → H' q = some o) → H' p = some (.lst [.int c]) → Q (.ref p) H'
def kp (H H' : Hp) : Prop := ∀ q o, H q = some o → H' q = some o
theorem kp.refl {H : Hp} : kp H H := fun _ _ h => h
theorem kp.trans {H H' H2 : Hp} (a : kp H H') (b : kp H' H2) : kp H H2 := fun q o h => b q o (a q o h)
theorem kp.new {H : Hp} {p : Addr} {o : HO} (h : H p = none) : kp H (upd H p o) := fun q u e => by rw [upd_ne (ne_of_none e h)]; exact e
def PC0 (K : PySem.W.Frag) (l : Addr) (ns : List Int) (H0 : Hp) (σ : L2.St) (H : Hp) : Prop := σ.length = 6 ∧ σ[0]? = some (some (.ref l)) ∧ σ[1]? = some (some (.int 1)) ∧ H = H0 ∧ SqL K H l (ns.map V.int)
def PC1 (K : PySem.W.Frag) (l : Addr) (ns : List Int) (H0 : Hp) (σ : L2.St) (H : Hp) : Prop := σ.length = 6 ∧ σ[0]? = some (some (.ref l)) ∧ σ[1]? = some (some (.int 1)) ∧ ∃ p c, σ[2]? = some (some (.ref p)) ∧ H p = some (.lst [.int c]) ∧ H0 p = none ∧ kp H0 H
variable {ns : List Int}
theorem sqL_kp {H H' : Hp} {a : Addr} {xs : List V} (k : kp H H') (s : SqL K H a xs) : SqL K H' a xs := by
  rcases s with (r | ⟨o, r⟩) | r
  · exact .inl (.inl (k a _ r))
  · exact .inl (.inr ⟨o, k a _ r⟩)
  · exact .inr r
/-- cells = list(script[:most]) or [0] -/
theorem ho_cells {i0 i1 : Str} {p1 p2 p3 p4 p5 p6 p7 p8 p9 p10 : Pos} {j0 : Nat} (hN : X.N.Nodup) (hm : X.mg "list" = none) (x0 : X.N[0]? = some i0) (x1 : X.N[1]? = some i1) (x2 : X.N[2]? = some x)
    (l0 : X.env.scope.names.lookup i0 = some .local) (l1 : X.env.scope.names.lookup i1 = some .local) (l2 : X.env.scope.names.lookup x = some .local) (d0 : (i0 == ("__debug__" : Str)) = false) (c0 : (i0 == ("__classdict__" : Str)) = false) (d1 : (i1 == ("__debug__" : Str)) = false) (c1 : (i1 == ("__classdict__" : Str)) = false)
    (hg : Gl X "list") (he : starEach [.Subscript (.Name i0 p2) (.Slice none (some (.Name i1 p3)) none p4) p5] X.env = (false, eval (.Subscript (.Name i0 p2) (.Slice none (some (.Name i1 p3)) none p4) p5) X.env) :: starEach [] X.env) (hpl : (backTo p6 (starEach [] X.env)).any (·.1) = false)
    (he2 : starEach [.Constant (.int 0) j0 p7] X.env = (false, eval (.Constant (.int 0) j0 p7) X.env) :: starEach [] X.env)
    (hs : swapsWith (.BoolOp .Or [.Call (.Name "list" p1) [.Subscript (.Name i0 p2) (.Slice none (some (.Name i1 p3)) none p4) p5] [] p6, .List [.Constant (.int 0) j0 p7] p8] p9) (some (.Name x p10)) pos.line X.env = pure false) (hf : X.fn x = true) :
    Ho X (PC0 X.K l ns H0) (.Assign [.Name x p10] (.BoolOp .Or [.Call (.Name "list" p1) [.Subscript (.Name i0 p2) (.Slice none (some (.Name i1 p3)) none p4) p5] [] p6, .List [.Constant (.int 0) j0 p7] p8] p9) pos) (PC1 X.K l ns H0) :=
  ps_mono (ps_set hN x2 (.inl l2) (pe_orT (pe_callTy call_list_of hg hm boot_list (pa_cons (pe_slice sl_list (pe_var x0 (.inl l0) d0 c0) po_none (po_some (pe_var x1 (.inl l1) d1 c1))) pa_nil he) (by decide) (by decide) he hpl) (pe_one (pe_lst (pa_cons pe_int pa_nil he2)))) hs (.inl hf)) fun D σ H ⟨p, q⟩ => by
    obtain ⟨e0, e1, e2, rfl, sq⟩ := p
    have fin : ∀ a c H', kp H H' → H a = none → H' a = some (.lst [.int c]) → D.nx (σ.set 2 (some (.ref a))) H' := fun a c H' k na ha =>
      q _ _ ⟨by rw [List.length_set]; exact e0, by rw [List.getElem?_set_ne (by omega)]; exact e1, by rw [List.getElem?_set_ne (by omega)]; exact e2, a, c, by rw [List.getElem?_set_self (by omega)], ha, na, k⟩
    refine ⟨_, e1, _, e2, 1, rfl, l, _, rfl, sq, fun a1 n1 => ⟨a1, _, rfl, .inl (SqL.of upd_same), fun a2 n2 => ?_⟩⟩
    have k1 := kp.new (o := .lst (cutV (ns.map V.int) none (some 1))) n1
    have k2 := k1.trans (kp.new (o := .lst (cutV (ns.map V.int) none (some 1))) n2)
    have na2 : H a2 = none := by
      by_cases z : a2 = a1
      · rw [z]; exact n1
      · rw [upd_ne z] at n2; exact n2
    cases ns with
    | nil =>
      refine ⟨false, .inl ⟨_, SqL.of upd_same, rfl⟩, ?_⟩
      refine ⟨by show 1 ≤ sizeLine; decide, fun a3 n3 => fin a3 0 _ (k2.trans (kp.new n3)) ?_ upd_same⟩
      cases z : H a3 with
      | none => rfl
      | some o => rw [k2 a3 o z] at n3; cases n3
    | cons c r =>
      have ec : cutV ((c :: r).map V.int) none (some 1) = [.int c] := by
        have h1 : HT.sIx ((c :: r).map V.int).length ((c :: r).map V.int).length (some (1 : Int)) = min 1 ((c :: r).map V.int).length := HT.sIx_nat _ _ 1
        unfold cutV
        rw [h1, HT.sIx_none]
        simp
      refine ⟨true, .inl ⟨_, SqL.of upd_same, ?_⟩, ?_⟩
      · rw [ec]; rfl
      · rw [if_pos rfl]
        exact fin a2 c _ k2 na2 (by rw [ec]; exact upd_same)

def PC2 (K : PySem.W.Frag) (l : Addr) (ns : List Int) (H0 : Hp) (i : Nat) (q : Addr) (xs : List V) (L : List Nat) (σ : L2.St) (H : Hp) : Prop :=
  PC1 K l ns H0 σ H ∧ H q = some (.lst xs) ∧ (∃ p, σ[2]? = some (some (.ref p)) ∧ p ≠ q) ∧ (3 ∈ L → σ[3]? = some (some (.int (i : Nat)))) ∧ (4 ∈ L → ∃ b, σ[4]? = some (some (.int b))) ∧ (5 ∈ L → σ[5]? = some (some (.int 0)))
variable {q : Addr} {xs : List V} {i : Nat}
theorem PC2.v3 (h : 3 ∈ L) : ∀ σ H, PC2 K l ns H0 i q xs L σ H → ∃ n, σ[3]? = some (some (.int n)) ∧ n = (i : Int) := fun σ H p => ⟨_, p.2.2.2.1 h, rfl⟩
theorem PC2.v4 (h : 4 ∈ L) : ∀ σ H, PC2 K l ns H0 i q xs L σ H → ∃ n, σ[4]? = some (some (.int n)) ∧ True := fun σ H p => by
  obtain ⟨b, e⟩ := p.2.2.2.2.1 h
  exact ⟨b, e, trivial⟩
theorem PC2.v5 (h : 5 ∈ L) : ∀ σ H, PC2 K l ns H0 i q xs L σ H → ∃ n, σ[5]? = some (some (.int n)) ∧ n = 0 := fun σ H p => ⟨_, p.2.2.2.2.2 h, rfl⟩
theorem PC2.v1 : ∀ σ H, PC2 K l ns H0 i q xs L σ H → ∃ n, σ[1]? = some (some (.int n)) ∧ n = 1 := fun σ H p => ⟨_, p.1.2.2.1, rfl⟩
theorem PC2.set5 : ∀ σ H v, PC2 K l ns H0 i q xs [3, 4] σ H → v = 0 → PC2 K l ns H0 i q xs [3, 4, 5] (σ.set 5 (some (.int v))) H := by
  rintro σ H v ⟨⟨e0, e1, e2, p, c, e3, e4⟩, h1, ⟨p', e5, ne⟩, h3, h4, _⟩ rfl
  refine ⟨⟨by rw [List.length_set]; exact e0, by rw [List.getElem?_set_ne (by omega)]; exact e1, by rw [List.getElem?_set_ne (by omega)]; exact e2, p, c, by rw [List.getElem?_set_ne (by omega)]; exact e3, e4⟩, h1, ⟨p', by rw [List.getElem?_set_ne (by omega)]; exact e5, ne⟩, fun _ => by rw [List.getElem?_set_ne (by omega)]; exact h3 (by simp), fun _ => ?_, fun _ => by rw [List.getElem?_set_self (by omega)]⟩
  rw [List.getElem?_set_ne (by omega)]
  exact h4 (by simp)
theorem PC2.ix : ∀ σ H, PC2 K l ns H0 i q xs L σ H → ∃ a xs, σ[2]? = some (some (.ref a)) ∧ SqL K H a xs ∧ ∀ k, k = 0 → ∃ n, atI xs k = some (.int n) ∧ True := by
  rintro σ H ⟨⟨e0, e1, e2, p, c, e3, e4, _⟩, _⟩
  exact ⟨p, _, e3, SqL.of e4, fun k hk => ⟨c, by rw [hk]; rfl, trivial⟩⟩
theorem PC2.sub : ∀ σ H, PC2 K l ns H0 i q xs L σ H → ∃ a, σ[2]? = some (some (.ref a)) ∧ ∀ v k, True → k = 0 → ∃ ys j, H a = some (.lst ys) ∧ ixN ys.length k = some j ∧ PC2 K l ns H0 i q xs [] σ (upd H a (.lst (ys.set j (.int v)))) := by
  rintro σ H ⟨⟨e0, e1, e2, p, c, e3, e4, e5, e6⟩, h1, ⟨p', e7, ne⟩, _⟩
  have ep : p' = p := by rw [e3] at e7; cases e7; rfl
  subst ep
  refine ⟨p', e3, fun v k _ hk => ?_⟩
  subst hk
  refine ⟨_, 0, e4, rfl, ⟨e0, e1, e2, p', v, e3, upd_same, e5, fun a o h => ?_⟩, by rw [upd_ne (Ne.symm ne)]; exact h1, ⟨p', e3, ne⟩, (fun h => nomatch h), (fun h => nomatch h), (fun h => nomatch h)⟩
  rw [upd_ne (ne_of_none h e5)]
  exact e6 a o h
theorem cut_ints (lo hi : Option Int) : ∃ ms : List Int, cutV (ns.map V.int) lo hi = ms.map V.int ∧ ms.length ≤ ns.length := by
  unfold cutV
  rw [← List.map_drop, ← List.map_take]
  refine ⟨_, rfl, ?_⟩
  rw [List.length_take, List.length_drop]
  omega
/-- for k, bit in enumerate(script[most:63]): .. -/
theorem ho_loop {i0 i1 y z : Str} {p1 p2 p3 p4 p5 p6 p7 p8 p9 p10 : Pos} {j0 kk : Nat} {body : List Stmt} (hN : X.N.Nodup) (hc : X.calm = true) (hm : X.mg "enumerate" = none) (hp : PassesOwn (model X.prog X.w) X.A X.env X.xe)
    (x0 : X.N[0]? = some i0) (x1 : X.N[1]? = some i1) (x3 : X.N[3]? = some y) (x4 : X.N[4]? = some z)
    (l0 : X.env.scope.names.lookup i0 = some .local) (l1 : X.env.scope.names.lookup i1 = some .local) (l3 : X.env.scope.names.lookup y = some .local) (l4 : X.env.scope.names.lookup z = some .local)
    (d0 : (i0 == ("__debug__" : Str)) = false) (c0 : (i0 == ("__classdict__" : Str)) = false) (d1 : (i1 == ("__debug__" : Str)) = false) (c1 : (i1 == ("__classdict__" : Str)) = false) (hg : Gl X "enumerate")
    (he : starEach [.Subscript (.Name i0 p2) (.Slice (some (.Name i1 p3)) (some (.Constant (.int 63) j0 p4)) none p5) p6] X.env = [(false, eval (.Subscript (.Name i0 p2) (.Slice (some (.Name i1 p3)) (some (.Constant (.int 63) j0 p4)) none p5) p6) X.env)])
    (a1 : (assignEach [.Name y p8, .Name z p9] X.env).map (·.2) = assign (.Name y p8) X.env :: (assignEach [.Name z p9] X.env).map (·.2)) (a2 : (assignEach [.Name z p9] X.env).map (·.2) = assign (.Name z p9) X.env :: (assignEach [] X.env).map (·.2))
    (hn : (assignEach [.Name y p8, .Name z p9] X.env).length = 2) (hst : (assignEach [.Name y p8, .Name z p9] X.env).findIdx? (·.1) = none) (hl : ns.length ≤ 63) (hfo : ∀ v, foldedSetIterable (.Call (.Name "enumerate" p1) [.Subscript (.Name i0 p2) (.Slice (some (.Name i1 p3)) (some (.Constant (.int 63) j0 p4)) none p5) p6] [] p7) X.env v = pure v)
    (hb : ∀ (i : Nat) (q : Addr) (xs : List V), i < 63 → Hs X (PC2 X.K l ns H0 i q xs [3, 4]) body (PC2 X.K l ns H0 i q xs []))
    (hsq : SqL X.K H0 l (ns.map V.int)) :
    Ho X (PC1 X.K l ns H0) (.For (.Tuple [.Name y p8, .Name z p9] kk p10) (.Call (.Name "enumerate" p1) [.Subscript (.Name i0 p2) (.Slice (some (.Name i1 p3)) (some (.Constant (.int 63) j0 p4)) none p5) p6] [] p7) body [] pos) (PC1 X.K l ns H0) := by
  have all : Hs X (fun σ H => ∃ i q xs, i < 63 ∧ PC2 X.K l ns H0 i q xs [3, 4] σ H) body (fun _ _ => True) := ⟨fun pins s σ H D I ⟨⟨i, q, xs, hi, p⟩, k⟩ => (hb i q xs hi).run pins s σ H D I ⟨p, fun σ' H' _ => k σ' H' trivial⟩⟩
  have tbp : PSs X body (fun D σ H => ∃ i q xs, i < 63 ∧ PC2 X.K l ns H0 i q xs [3, 4] σ H ∧ ∀ σ' H', PC2 X.K l ns H0 i q xs [] σ' H' → D.nx σ' H') := ⟨fun pins s σ H D I ⟨i, q, xs, hi, p, k⟩ => (hb i q xs hi).run pins s σ H D I ⟨p, k⟩⟩
  refine ps_mono (ps_for hp hc (pi_enum hg hm (pa_cons (pe_slice sl_list (pe_var x0 (.inl l0) d0 c0) (po_some (pe_var x1 (.inl l1) d1 c1)) (po_some pe_int)) pa_nil (by rw [he]; rfl)) he) (pg_tup hc (pgs_cons (pg_name hN x3 (.inl l3) (.inr l3)) (pgs_cons (pg_name hN x4 (.inl l4) (.inr l4)) pgs_nil a2) a1) hn hst) tbp hfo) fun D σ H ⟨p, k⟩ => ?_
  obtain ⟨e0, e1, e2, pp, c, e3, e4, e5, e6⟩ := p
  refine ⟨_, e1, _, e2, 1, rfl, 63, rfl, l, _, rfl, sqL_kp e6 hsq, fun q nq => ?_⟩
  obtain ⟨ms, em, lm⟩ := cut_ints (ns := ns) (some 1) (some 63)
  rw [em]
  have qp : pp ≠ q := fun z => by rw [z, nq] at e4; cases e4
  refine ⟨q, ms.map V.int, rfl, SqL.of upd_same, fun i m σ H => i + m = ms.length ∧ PC2 X.K l ns H0 i q (ms.map V.int) [] σ H, ⟨ms.length, Nat.zero_add _, ⟨e0, e1, e2, pp, c, e3, by rw [upd_ne qp]; exact e4, e5, fun a o h => by rw [upd_ne (ne_of_none (e6 a o h) nq)]; exact e6 a o h⟩, upd_same, ⟨pp, e3, qp⟩, (fun h => nomatch h), (fun h => nomatch h), (fun h => nomatch h)⟩, ?_⟩
  rintro i m σ H ⟨him, pc⟩
  by_cases lt : i < ms.length
  · obtain ⟨x, ex⟩ : ∃ x, ms[i]? = some x := ⟨ms[i], List.getElem?_eq_getElem lt⟩
    have exv : (ms.map V.int)[i]? = some (.int x) := by rw [List.getElem?_map, ex]; rfl
    refine .inr ⟨⟨ms.map V.int, .int x, SqL.of pc.2.1, exv⟩, fun σ' H' => (i + 1) + (m - 1) = ms.length ∧ PC2 X.K l ns H0 (i + 1) q (ms.map V.int) [] σ' H', fun σ' H' w => ⟨m - 1, by omega, w⟩, ?_⟩
    rintro v H' ⟨T, u, rfl, nT, rfl, fu⟩
    have eu := fu _ (SqL.of pc.2.1)
    rw [exv] at eu
    cases eu
    obtain ⟨⟨e0, e1, e2, p3, c, e3, e4, e5, e6⟩, h1, ⟨p4, e7, ne⟩, _⟩ := pc
    have ep : p4 = p3 := by rw [e3] at e7; cases e7; rfl
    subst ep
    have u1 : ∀ {a o}, H a = some o → upd H T (.tup [.int (i : Nat), .int x]) a = some o := fun {a o} h => by rw [upd_ne (ne_of_none h nT)]; exact h
    refine ⟨T, _, rfl, .inl (.inl upd_same), rfl, _, _, rfl, _, _, rfl, rfl, i, q, ms.map V.int, by omega, ?_, fun σ' H' w => ⟨by omega, ?_⟩⟩
    · refine ⟨⟨by rw [List.length_set, List.length_set]; exact e0, ?_, ?_, p4, c, ?_, u1 e4, e5, fun a o h => u1 (e6 a o h)⟩, u1 h1, ⟨p4, ?_, ne⟩, fun _ => ?_, fun _ => ⟨x, ?_⟩, fun h => by simp at h⟩
      · rw [List.getElem?_set_ne (by omega), List.getElem?_set_ne (by omega)]; exact e1
      · rw [List.getElem?_set_ne (by omega), List.getElem?_set_ne (by omega)]; exact e2
      · rw [List.getElem?_set_ne (by omega), List.getElem?_set_ne (by omega)]; exact e3
      · rw [List.getElem?_set_ne (by omega), List.getElem?_set_ne (by omega)]; exact e3
      · rw [List.getElem?_set_ne (by omega), List.getElem?_set_self (by omega)]
      · rw [List.getElem?_set_self (by rw [List.length_set]; omega)]
    · obtain ⟨w1, w2, w3, _, _, _⟩ := w
      exact ⟨w1, w2, w3, (fun h => nomatch h), (fun h => nomatch h), (fun h => nomatch h)⟩
  · exact .inl ⟨⟨ms.map V.int, SqL.of pc.2.1, by rw [List.length_map]; omega⟩, k σ H pc.1⟩
def RC (H0 : Hp) : VK := fun v H => ∃ p c, v = .ref p ∧ kp H0 H ∧ H p = some (.lst [.int c])
theorem PC1.ret : ∀ σ H, PC1 K l ns H0 σ H → ∃ v, σ[2]? = some (some v) ∧ RC H0 v H := by
  rintro σ H ⟨_, _, _, p, c, e, h, _, k⟩
  exact ⟨_, e, p, c, rfl, k, h⟩
theorem fn_cells {P : Program} {w : World} {mg : Str → Option Value} {base : Heap} {x qual : Str} {params : Arguments} {body : List Stmt} {scope : Scope} {f : Addr} {fd : FuncData} {N ps : List Str}
    (F : FunD K x qual params body scope [] [] f fd) (S : FnScope N ps scope) (hL : ps.length = 2) (hl : N.length = 6)
    (hb : ∀ (cdv : Value) (A : Around) (outer : List Env) (s : Shared) (H : Hp) (E : XK), ∀ (l : Addr) (ns : List Int) (H0 : Hp), ns.length ≤ 63 → SqL K H0 l (ns.map V.int) → Fi (cxOf CX0 P w K mg base N qual scope f cdv A outer s H E).nox (PC0 K l ns H0) body (RC H0)) :
    FnOk P w K mg base CX0 1 f fd ps (spCells K) := by
  refine F.ok S (fun vs H Q E q => ?_) fun cdv A outer s H vs Q E hr q => ?_
  · obtain ⟨l, ns, rfl, _⟩ := q
    rw [hL]; rfl
  · obtain ⟨l, ns, rfl, sq, h63, q⟩ := q
    refine ⟨_, (hb cdv A outer s H E l ns H h63 sq).nox, ⟨⟨?_, rfl, rfl, rfl, sq⟩, fun v H' rt => ?_⟩⟩
    · unfold L2.start
      rw [List.length_append, List.length_map, List.length_replicate, hl]; rfl
    · obtain ⟨p, c, rfl, k, hp⟩ := rt
      exact q p c H' k hp

theorem mod_in {i j M : Int} (hj : j = M) (h : 0 < M) : 0 < j ∧ 0 ≤ i % j ∧ i % j < M := by
  subst hj
  exact ⟨h, Int.emod_nonneg _ (by omega), Int.emod_lt_of_pos _ h⟩
/-! ### the law's start -/
structure ClS (P : Program) (w : World) (K : PySem.W.Frag) (mg : Str → Option Value) (base : Heap) (kc : Nat) (x : Str) (sp : Sp) : Prop where
  ex : ∃ (f : Addr) (fd : FuncData) (ps : List Str), FnOk P w K mg base CX0 kc f fd ps sp ∧ mg x = some (.ref f) ∧ PySem.W.keepIn K (.ref f) = true ∧ Binds K fd ps []
/-- tin = _law_box(_law_cells(script, 1), 0) -/
theorem ps_law0 {kj : Nat} {i0 : Str} {xb xc : Str} {p1 p2 p3 p4 p5 p6 p7 : Pos} {j1 j2 : Nat} (CB : ClS X.prog X.w X.K X.mg X.base 1 xb (spBox X.K)) (CC : ClS X.prog X.w X.K X.mg X.base 1 xc (spCells X.K)) (hr : Room kj X.A) (hN : X.N.Nodup) (hk : 1 ≤ kj) (x0 : X.N[0]? = some i0) (x1 : X.N[1]? = some x)
    (l0 : X.env.scope.names.lookup i0 = some .local) (l1 : Loc X.env.scope x) (d0 : (i0 == ("__debug__" : Str)) = false) (c0 : (i0 == ("__classdict__" : Str)) = false) (hgb : Gl X xb) (hgc : Gl X xc) (db : (xb == ("__debug__" : Str)) = false) (dcc : (xc == ("__debug__" : Str)) = false)
    (s1 : starEach [.Call (.Name xc p1) [.Name i0 p2, .Constant (.int 1) j1 p3] [] p4, .Constant (.int 0) j2 p5] X.env = (false, eval (.Call (.Name xc p1) [.Name i0 p2, .Constant (.int 1) j1 p3] [] p4) X.env) :: starEach [.Constant (.int 0) j2 p5] X.env)
    (s2 : starEach [.Constant (.int 0) j2 p5] X.env = (false, eval (.Constant (.int 0) j2 p5) X.env) :: starEach [] X.env) (h1 : (backTo p7 (starEach [.Constant (.int 0) j2 p5] X.env)).any (·.1) = false)
    (s3 : starEach [.Name i0 p2, .Constant (.int 1) j1 p3] X.env = (false, eval (.Name i0 p2) X.env) :: starEach [.Constant (.int 1) j1 p3] X.env) (s4 : starEach [.Constant (.int 1) j1 p3] X.env = (false, eval (.Constant (.int 1) j1 p3) X.env) :: starEach [] X.env) (h2 : (backTo p4 (starEach [.Constant (.int 1) j1 p3] X.env)).any (·.1) = false)
    (hs : swapsWith (.Call (.Name xb p6) [.Call (.Name xc p1) [.Name i0 p2, .Constant (.int 1) j1 p3] [] p4, .Constant (.int 0) j2 p5] [] p7) (some (.Name x p)) pos.line X.env = pure false) (hf : X.fn x = true) :
    PS X (.Assign [.Name x p] (.Call (.Name xb p6) [.Call (.Name xc p1) [.Name i0 p2, .Constant (.int 1) j1 p3] [] p4, .Constant (.int 0) j2 p5] [] p7) pos)
      (fun D σ H => ∃ (a : Addr) (ns : List Int), σ[0]? = some (some (.ref a)) ∧ SqL X.K H a (ns.map V.int) ∧ ns.length ≤ 63 ∧ ∀ q x y H', H' q = some (.lst [.int x, .int y, .int 0]) → TinOk 0 x y 0 → D.nx (σ.set 1 (some (.ref q))) H') := by
  obtain ⟨fb, fdb, psb, FB, mb, kb, bb⟩ := CB.ex
  obtain ⟨fc, fdc, psc, FC, mc, kc, bc⟩ := CC.ex
  refine ps_mono (ps_set hN x1 l1 (pe_call FB (hr.mono hk) hgb mb kb bb .nil pass0 (pa_cons (pe_call FC (hr.mono hk) hgc mc kc bc .nil pass0 (pa_cons (pe_var x0 (.inl l0) d0 c0) (pa_cons pe_int pa_nil s4) s3) dcc s3 h2) (pa_cons pe_int pa_nil s2) s1) db s1 h1) hs (.inl hf)) fun D σ H h => ?_
  obtain ⟨a, ns, e, sq, hl, k⟩ := h
  refine ⟨_, e, ⟨a, ns, rfl, sq, hl, fun p c H' kk hp => ⟨p, c, rfl, hp, fun q x y hq t => k q x y _ upd_same t⟩⟩⟩
def isTr (d : D) : Bool := dc d nF nF pF lF nF (fun a => @At.rec (fun _ => Bool) false false (fun b => b) (fun _ => false) a)
def KT : KS := ⟨fun _ _ => false, fun d _ => isTr d, fun _ _ => false, fun _ _ => false⟩
def spLaw2 (K : PySem.W.Frag) : Sp := fun vs H Q _ => ∃ (a : Addr) (ns : List Int), vs = [.ref a] ∧ ns.length ≤ 63 ∧ (∀ H, Q (.bl true) H) ∧ SqL K H a (ns.map V.int)
theorem fn_law {P : Program} {w : World} {mg : Str → Option Value} {base : Heap} {x qual : Str} {params : Arguments} {st : Stmt} {body : List Stmt} {scope : Scope} {f : Addr} {fd : FuncData} {N : List Str} {i0 : Str} {kk nl : Nat} {c : MS}
    (F : FunD K x qual params (st :: body) scope [] [] f fd) (S : FnScope N [i0] scope) (hl : N.length = 2 + nl)
    (h0 : ∀ (cdv : Value) (A : Around) (outer : List Env) (s : Shared) (H : Hp) (E : XK), Room kk (A.deeper (envOfC qual scope s.heap.objs.size f cdv)) → PS (cxOf CX0 P w K mg base N qual scope f cdv A outer s H E).nox st
      (fun D σ H => ∃ (a : Addr) (ns : List Int), σ[0]? = some (some (.ref a)) ∧ SqL K H a (ns.map V.int) ∧ ns.length ≤ 63 ∧ ∀ q x y H', H' q = some (.lst [.int x, .int y, .int 0]) → TinOk 0 x y 0 → D.nx (σ.set 1 (some (.ref q))) H'))
    (hb : ∀ (cdv : Value) (A : Around) (outer : List Env) (s : Shared) (H : Hp) (E : XK), Room kk (A.deeper (envOfC qual scope s.heap.objs.size f cdv)) → PSs (cxOf CX0 P w K mg base N qual scope f cdv A outer s H E).nox body (rdS K c))
    (hk : c (unk :: .ref 0 :: unks nl) ⟨1, [(0, .tin)]⟩ KT = true) : FnOk P w K mg base CX0 (kk + 1) f fd [i0] (spLaw2 K) := by
  refine F.ok S (fun vs H Q E q => ?_) fun cdv A outer s H vs Q E hr q => ⟨_, (pss_cons (h0 cdv A outer s H E hr) (hb cdv A outer s H E hr)).nox, ?_⟩
  · obtain ⟨a, ns, rfl, _⟩ := q; rfl
  · obtain ⟨a, ns, rfl, h63, hq, sq⟩ := q
    refine ⟨a, ns, rfl, sq, h63, fun p x y H' hp t => ?_⟩
    refine ⟨fun _ => p, ⟨1, [(0, .tin)]⟩, unk :: .ref 0 :: unks nl, KT, ⟨⟨fun j o e => ?_, fun i j h1 h2 _ => ?_, List.pairwise_singleton _ _⟩, ?_, fun i => ?_⟩, hk, ⟨?_, ?_, ?_, ?_⟩⟩
    · have e' : (if 0 = j then some LO.tin else none) = some o := e
      by_cases z : 0 = j
      · rw [if_pos z] at e'
        cases e'
        subst z
        exact ⟨Nat.lt_succ_self _, x, y, 0, t.succ, hp⟩
      · rw [if_neg z] at e'; cases e'
    · have one : ∀ i, live [(0, LO.tin)] i → i = 0 := fun i h => by
        unfold live at h
        have e : lk [(0, LO.tin)] i = if 0 = i then some LO.tin else none := rfl
        rw [e] at h
        by_cases z : 0 = i
        · exact z.symm
        · rw [if_neg z] at h; cases h
      rw [one i h1, one j h2]
    · unfold L2.start
      show (unk :: D.ref 0 :: unks nl).length = _
      rw [List.length_set, List.length_append, List.length_map, List.length_replicate, hl]
      show (unks nl).length + 1 + 1 = _
      unfold unks
      rw [List.length_replicate]
      show nl + 1 + 1 = 1 + (2 + nl - 1)
      omega
    · match i with
      | 0 => exact .inl rfl
      | 1 =>
        refine .inr ⟨.ref p, ?_, .ref 0 (Nat.lt_succ_self 0)⟩
        rw [List.getElem?_set_self]
        unfold L2.start
        rw [List.length_append, List.length_map, List.length_replicate, hl]
        show 1 < 1 + (2 + nl - 1)
        omega
      | i + 2 => exact .inl (gE_unks nl i)
    · exact fun m' h' H' es' σ' ex w' q' => nomatch q'
    · exact fun m' h' H' es' σ' ex w' q' => nomatch q'
    · exact fun m' h' H' es' σ' ex w' q' => nomatch q'
    · intro v m' h' H' d ex w' r' q'
      have q2 : isTr d = true := q'
      cases r' with
      | bl b =>
        have : b = true := q2
        subst this
        exact hq H'
      | _ => cases q2
end
end Pv
set_option Elab.async false
set_option linter.all false
set_option maxRecDepth 100000
set_option maxHeartbeats 4000000
/-! Tables of a def's results: each entry is run once, at the empty heap. -/
noncomputable section
namespace Pv
open PySem PySem.Spec PyProof.Rows L2
inductive Mo where
  | p (d : D) | l (ds : List D)
abbrev Tb := List (List D × Mo)
def outM (o : Mo) (h : Hv) (k : KD) : Bool := @Mo.rec (fun _ => Bool) (fun d => k d h) (fun ds => alloc (.lst ds) h k) o
def chkM (o : Mo) : KD := fun r h => @Mo.rec (fun _ => Bool) (fun d => smD d r) (fun ds => dc r nF nF pF lF (fun j => seqR j h fun es => smL ds es) aF) o
def memF (t : Tb) (f : MF) : MF := fun ds h k => @List.rec (List D × Mo) (fun _ => Bool) (f ds h k) (fun e _ ih => @Prod.rec (List D) Mo (fun _ => Bool) (fun a o => bsel (smL a ds) (outM o h k) ih) e) t
def tOk (f : MF) (t : Tb) : Bool := @List.rec (List D × Mo) (fun _ => Bool) true (fun e _ ih => @Prod.rec (List D) Mo (fun _ => Bool) (fun a o => bsel (f a ⟨0, []⟩ (chkM o)) ih false) e) t
def TbOk (f : MF) (t : Tb) : Prop := ∀ e ∈ t, f e.1 ⟨0, []⟩ (chkM e.2) = true
theorem tOk_true {f : MF} : ∀ {t : Tb}, tOk f t = true → TbOk f t
  | [], _, _, h => nomatch h
  | (a, o) :: t, q, e, h => by
    obtain ⟨q1, q2⟩ := bsel_tf (show bsel (f a ⟨0, []⟩ (chkM o)) (tOk f t) false = true from q)
    rcases List.mem_cons.mp h with z | z
    · rw [z]; exact q1
    · exact tOk_true q2 e z
theorem TbOk.app {f : MF} {t u : Tb} (a : TbOk f t) (b : TbOk f u) : TbOk f (t ++ u) := fun e h => (List.mem_append.mp h).elim (a e) (b e)
theorem memF_true {f : MF} {ds : List D} {h : Hv} {k : KD} : ∀ {t : Tb}, memF t f ds h k = true → f ds h k = true ∨ ∃ e ∈ t, smL e.1 ds = true ∧ outM e.2 h k = true
  | [], q => .inl q
  | (a, o) :: t, q => by
    have q' : bsel (smL a ds) (outM o h k) (memF t f ds h k) = true := q
    rcases bsel_true q' with ⟨e, q1⟩ | ⟨_, q1⟩
    · exact .inr ⟨(a, o), List.mem_cons_self, e, q1⟩
    · rcases memF_true q1 with z | ⟨e, h1, h2⟩
      · exact .inl z
      · exact .inr ⟨e, List.mem_cons_of_mem _ h1, h2⟩
section
variable {K : PySem.W.Frag} {m m' m2 : Nat → Addr} {h h' : Hv} {H H' : Hp} {n n' : Nat} {v : V} {d : D} {vs : List V} {ds : List D} {k : KD} {Q : VK}
mutual
theorem rd_pure : ∀ {v : V} {d : D} {q : Nat}, RD K m H n v d → dpt d = some q → RD K m2 H n' v d
  | _, _, _, .nat i, _ => .nat i
  | _, _, _, .neg i, _ => .neg i
  | _, _, _, .tup s r z q, _ => .tup s (rds_pure r q) z q
  | _, _, _, .tpr s r, e => by cases e
  | _, _, _, .ref j l, e => by cases e
  | _, _, _, .non, _ => .non
  | _, _, _, .bl b, _ => .bl b
  | _, _, _, .str x z, _ => .str x z
theorem rds_pure : ∀ {vs : List V} {ds : List D} {p : Nat}, RDs K m H n vs ds → (∀ d ∈ ds, ∃ q, dpt d = some q ∧ q < p) → RDs K m2 H n' vs ds
  | _, _, _, .nil, _ => .nil
  | _, _, _, .cons r s, z => by
    obtain ⟨q, e, _⟩ := z _ List.mem_cons_self
    exact .cons (rd_pure r e) (rds_pure s fun d hd => z d (List.mem_cons_of_mem _ hd))
end
theorem smD_dpt {x y : D} (q : smD x y = true) : ∃ p, dpt y = some p := by
  have e := smD_true q
  subst e
  cases x with
  | nat i => exact ⟨0, rfl⟩
  | neg i => exact ⟨0, rfl⟩
  | tup p ds => exact ⟨p, rfl⟩
  | tpr ds => cases q
  | ref j => cases q
  | oth a =>
    rcases (atE_true (show atE a a = true from q)).2 with e | ⟨c, e⟩
    · subst e; exact ⟨_, rfl⟩
    · subst e; exact ⟨_, rfl⟩
theorem smL_dpt : ∀ {x y : List D}, smL x y = true → ∀ d ∈ y, ∃ p, dpt d = some p
  | [], [], _, d, h => nomatch h
  | [], _ :: _, q, _, _ => by cases q
  | x :: r, [], q, _, _ => by cases q
  | x :: r, y :: t, q, d, h => by
    obtain ⟨q1, q2⟩ := bsel_tf (show bsel (smD x y) (smL r t) false = true from q)
    rcases List.mem_cons.mp h with e | h
    · rw [e]; exact smD_dpt q1
    · exact smL_dpt q2 d h
theorem rds_pure' : ∀ {vs : List V} {ds : List D}, RDs K m H n vs ds → (∀ d ∈ ds, ∃ p, dpt d = some p) → RDs K m2 H n' vs ds
  | _, _, .nil, _ => .nil
  | _, _, .cons r s, z => by
    obtain ⟨q, e⟩ := z _ List.mem_cons_self
    exact .cons (rd_pure r e) (rds_pure' s fun d hd => z d (List.mem_cons_of_mem _ hd))
theorem hs_nil : HS K m ⟨0, []⟩ H := ⟨fun j o e => (nomatch e), fun i j h => (nomatch h), List.Pairwise.nil⟩
/-- what ran on the empty heap keeps all -/
theorem ext_of_nil (w : HS K m h H) (e : Ext m ⟨0, []⟩ H m' h' H') : kp H H' ∧ Ext m h H m h H' ∧ HS K m h H' := by
  have k0 : kp H H' := fun a o q => (e.keep a o q fun j l => nomatch l).1
  have ex : Ext m h H m h H' := ⟨Nat.le_refl _, fun _ _ => rfl, fun a o q z => ⟨k0 a o q, z⟩, fun _ q => q⟩
  refine ⟨k0, ex, fun j o q => ?_, w.inj, w.srt⟩
  obtain ⟨l, od⟩ := w.obj j o q
  refine ⟨l, ?_⟩
  cases o with
  | lst ds => obtain ⟨vs, r, s⟩ := od; exact ⟨vs, k0 _ _ r, s.mono ex w⟩
  | dct ks vs =>
    obtain ⟨wd, xs, us, r, s, l1, nd, rk, ek, kk, rv, vv⟩ := od
    exact ⟨wd, xs, us, k0 _ _ r, s, l1, nd, rk.mono ex w, ek, kk, rv.mono ex w, vv⟩
  | tin => obtain ⟨x, y, z, nn, r⟩ := od; exact ⟨x, y, z, nn, k0 _ _ r⟩
/-- an object that is there is tracked from now on -/
theorem HS.track (w : HS K m h H) {p : Addr} {ds : List D} {vs : List V} (hp : H p = some (.lst vs)) (r : RDs K m H h.n vs ds) (np : ∀ j, live h.m j → m j ≠ p) :
    ∃ m2, m2 h.n = p ∧ (∀ j, j ≠ h.n → m2 j = m j) ∧ HS K m2 ⟨h.n + 1, (h.n, .lst ds) :: h.m⟩ H := by
  let m2 : Nat → Addr := fun j => if j = h.n then p else m j
  have lkc : ∀ j, lk ((h.n, LO.lst ds) :: h.m) j = if h.n = j then some (.lst ds) else lk h.m j := fun j => rfl
  have m2n : m2 h.n = p := if_pos rfl
  have m2o : ∀ j, j ≠ h.n → m2 j = m j := fun j hj => if_neg hj
  have ag : ∀ j, j < h.n → m2 j = m j := fun j hj => m2o j (Nat.ne_of_lt hj)
  have go : ∀ {vs : List V} {ds : List D}, RDs K m H h.n vs ds → RDs K m2 H (h.n + 1) vs ds := fun {vs ds} r =>
    r.mono (h := ⟨h.n, []⟩) (h' := ⟨h.n + 1, []⟩) ⟨Nat.le_succ _, ag, fun a o e z => ⟨e, fun j z => (nomatch z)⟩, fun j z => (nomatch z)⟩ ⟨fun j o z => (nomatch z), fun i j z => (nomatch z), List.Pairwise.nil⟩
  have lv : ∀ j, Pv.live ((h.n, LO.lst ds) :: h.m) j → j = h.n ∨ (j ≠ h.n ∧ Pv.live h.m j) := fun j q => by
    by_cases hj : j = h.n
    · exact .inl hj
    · unfold Pv.live at q ⊢
      rw [lkc, if_neg (fun e => hj e.symm)] at q
      exact .inr ⟨hj, q⟩
  refine ⟨m2, m2n, m2o, fun j o q => ?_, fun i j q1 q2 z => ?_, List.pairwise_cons.mpr ⟨fun j z => w.keys j z, w.srt⟩⟩
  · have q' : lk ((h.n, LO.lst ds) :: h.m) j = some o := q
    rw [lkc] at q'
    by_cases hj : h.n = j
    · rw [if_pos hj] at q'
      cases q'
      subst hj
      exact ⟨Nat.lt_succ_self _, vs, by rw [m2n]; exact hp, go r⟩
    · rw [if_neg hj] at q'
      obtain ⟨lt, od⟩ := w.obj j o q'
      refine ⟨Nat.lt_succ_of_lt lt, ?_⟩
      rw [m2o j fun e => hj e.symm]
      cases o with
      | lst ds => obtain ⟨vs, r, s⟩ := od; exact ⟨vs, r, go s⟩
      | dct ks vs =>
        obtain ⟨wd, xs, us, r, s, l1, nd, rk, ek, kk, rv, vv⟩ := od
        exact ⟨wd, xs, us, r, s, l1, nd, go rk, ek, kk, go rv, vv⟩
      | tin => obtain ⟨x, y, z, nn, r⟩ := od; exact ⟨x, y, z, nn.succ, r⟩
  · rcases lv i q1 with a1 | ⟨a1, b1⟩ <;> rcases lv j q2 with a2 | ⟨a2, b2⟩
    · rw [a1, a2]
    · rw [a1, m2n, m2o j a2] at z; exact absurd z.symm (np j b2)
    · rw [a2, m2n, m2o i a1] at z; exact absurd z (np i b1)
    · rw [m2o i a1, m2o j a2] at z; exact w.inj i j b1 b2 z
theorem mem_ok {L : Nat} {f : MF} {t : Tb} (ok : TbOk f t) {E : XK} (z : spC K L (memF t f) vs H Q E) : spC K L f vs H Q E := by
  obtain ⟨hv, m, h, ds, k, hs, r, q, p⟩ := z
  rcases memF_true q with q1 | ⟨e, he, q1, q2⟩
  · exact ⟨hv, m, h, ds, k, hs, r, q1, p⟩
  · obtain ⟨a, o⟩ := e
    have ea : a = ds := smL_true q1
    subst ea
    refine ⟨hv, m, ⟨0, []⟩, a, chkM o, hs_nil, rds_pure' r (smL_dpt q1), ok _ he, fun v m' h' H' d ex hs' rd c => ?_⟩
    obtain ⟨k0, ex2, hs2⟩ := ext_of_nil hs ex
    cases o with
    | p d0 =>
      have c' : smD d0 d = true := c
      have ed := smD_true c'
      subst ed
      obtain ⟨dp, edp⟩ := smD_dpt c'
      exact p v m h H' d0 ex2 hs2 (rd_pure rd edp) q2
    | l ds0 =>
      cases rd with
      | ref j lj =>
        have c' : seqR j h' (fun es => smL ds0 es) = true := c
        obtain ⟨es, us, u, e1, _, c2, hh, rs⟩ := seqR_true hs' c'
        have ee := smL_true c2
        subst ee
        have lj' : live h'.m j := by unfold live; rw [e1]; rfl
        have np : ∀ i, live h.m i → m i ≠ m' j := fun i li z => by
          obtain ⟨o, ho, _⟩ := hs.lst_at li
          exact (ex.keep _ _ ho fun j l => nomatch l).2 j lj' z.symm
        obtain ⟨m2, a1, a2, hs3⟩ := hs2.track hh (rds_pure' rs (smL_dpt c2)) np
        have q3 : alloc (.lst ds0) h k = true := q2
        rw [alloc_eq] at q3
        have ex3 : Ext m h H m2 ⟨h.n + 1, (h.n, .lst ds0) :: h.m⟩ H' := by
          refine ⟨Nat.le_succ _, fun i hi => a2 i (Nat.ne_of_lt hi), fun b o eb z => ⟨k0 b o eb, fun i li => ?_⟩, fun i li => ?_⟩
          · by_cases hi : i = h.n
            · rw [hi, a1]
              exact (ex.keep b o eb fun j l => nomatch l).2 j lj'
            · rw [a2 i hi]
              refine z i ?_
              unfold live at li ⊢
              have e9 : lk ((h.n, LO.lst ds0) :: h.m) i = if h.n = i then some (.lst ds0) else lk h.m i := rfl
              rw [e9, if_neg (fun e => hi e.symm)] at li
              exact li
          · unfold live at li ⊢
            have e9 : lk ((h.n, LO.lst ds0) :: h.m) i = if h.n = i then some (.lst ds0) else lk h.m i := rfl
            rw [e9]
            by_cases hi : h.n = i
            · rw [if_pos hi]; rfl
            · rw [if_neg hi]; exact li
        have rd3 : RD K m2 H' (h.n + 1) (.ref (m' j)) (.ref h.n) := by
          rw [← a1]
          exact .ref h.n (Nat.lt_succ_self _)
        exact p _ m2 _ H' (.ref h.n) ex3 hs3 rd3 q3
      | _ => cases c
/-- the def with its table ahead -/
theorem cl_mem {P : Program} {w : World} {mg : Str → Option Value} {base : Heap} {kc L : Nat} {x : Str} {f : MF} {t : Tb} (C : Cl P w K mg base kc x L f) (ok : TbOk f t) : Cl P w K mg base kc x L (memF t f) := by
  obtain ⟨a, fd, ps, F, hm, kp, b⟩ := C.ex
  exact ⟨a, fd, ps, F.imp fun vs H Q E z => mem_ok ok z, hm, kp, b⟩
end
end Pv
set_option Elab.async false
set_option linter.all false
set_option maxRecDepth 100000
set_option maxHeartbeats 4000000
/-! Short forms of defs: told by plain Lean, shown by one run at the empty heap. -/
noncomputable section
namespace Pv
open PySem PySem.Spec PyProof.Rows L2
def PurL (ds : List D) : Prop := ∀ d ∈ ds, ∃ p, dpt d = some p
/-- what the run at the empty heap tells -/
theorem ent_ok {K : PySem.W.Frag} {m : Nat → Addr} {h : Hv} {H : Hp} {vs : List V} {k : KD} {Q : VK} {L : Nat} {f : MF} {a : List D} {o : Mo} {E : XK} (pa : PurL a) (ok : f a ⟨0, []⟩ (chkM o) = true)
    (hv : vs.length = L) (hs : HS K m h H) (r : RDs K m H h.n vs a) (q2 : outM o h k = true) (p : PoR K m h H k Q) : spC K L f vs H Q E := by
  let t : Tb := [(a, o)]
  refine ⟨hv, m, ⟨0, []⟩, a, chkM o, hs_nil, rds_pure' r pa, ok, fun v m' h' H' d ex hs' rd c => ?_⟩
  obtain ⟨k0, ex2, hs2⟩ := ext_of_nil hs ex
  cases o with
  | p d0 =>
    have c' : smD d0 d = true := c
    have ed := smD_true c'
    subst ed
    obtain ⟨dp, edp⟩ := smD_dpt c'
    exact p v m h H' d0 ex2 hs2 (rd_pure rd edp) q2
  | l ds0 =>
    cases rd with
    | ref j lj =>
      have c' : seqR j h' (fun es => smL ds0 es) = true := c
      obtain ⟨es, us, u, e1, _, c2, hh, rs⟩ := seqR_true hs' c'
      have ee := smL_true c2
      subst ee
      have lj' : live h'.m j := by unfold live; rw [e1]; rfl
      have np : ∀ i, live h.m i → m i ≠ m' j := fun i li z => by
        obtain ⟨o, ho, _⟩ := hs.lst_at li
        exact (ex.keep _ _ ho fun j l => nomatch l).2 j lj' z.symm
      obtain ⟨m2, a1, a2, hs3⟩ := hs2.track hh (rds_pure' rs (smL_dpt c2)) np
      have q3 : alloc (.lst ds0) h k = true := q2
      rw [alloc_eq] at q3
      have ex3 : Ext m h H m2 ⟨h.n + 1, (h.n, .lst ds0) :: h.m⟩ H' := by
        refine ⟨Nat.le_succ _, fun i hi => a2 i (Nat.ne_of_lt hi), fun b o eb z => ⟨k0 b o eb, fun i li => ?_⟩, fun i li => ?_⟩
        · by_cases hi : i = h.n
          · rw [hi, a1]
            exact (ex.keep b o eb fun j l => nomatch l).2 j lj'
          · rw [a2 i hi]
            refine z i ?_
            unfold live at li ⊢
            have e9 : lk ((h.n, LO.lst ds0) :: h.m) i = if h.n = i then some (.lst ds0) else lk h.m i := rfl
            rw [e9, if_neg (fun e => hi e.symm)] at li
            exact li
        · unfold live at li ⊢
          have e9 : lk ((h.n, LO.lst ds0) :: h.m) i = if h.n = i then some (.lst ds0) else lk h.m i := rfl
          rw [e9]
          by_cases hi : h.n = i
          · rw [if_pos hi]; rfl
          · rw [if_neg hi]; exact li
      have rd3 : RD K m2 H' (h.n + 1) (.ref (m' j)) (.ref h.n) := by
        rw [← a1]
        exact .ref h.n (Nat.lt_succ_self _)
      exact p _ m2 _ H' (.ref h.n) ex3 hs3 rd3 q3
    | _ => cases c
/-- a short form: it hands on the outcome, or leaves it to the def -/
abbrev FF := List D → (Mo → Bool) → Bool → Bool
def fstF (F : FF) (f : MF) : MF := fun ds h k => F ds (fun o => outM o h k) (f ds h k)
def FOk (F : FF) (f : MF) : Prop := ∀ ds kk fb, F ds kk fb = true → fb = true ∨ ∃ o, kk o = true ∧ PurL ds ∧ f ds ⟨0, []⟩ (chkM o) = true
theorem cl_fst {P : Program} {w : World} {K : PySem.W.Frag} {mg : Str → Option Value} {base : Heap} {kc L : Nat} {x : Str} {f : MF} {F : FF} (C : Cl P w K mg base kc x L f) (ok : FOk F f) : Cl P w K mg base kc x L (fstF F f) := by
  obtain ⟨a, fd, ps, FO, hm, kp, b⟩ := C.ex
  refine ⟨a, fd, ps, FO.imp fun vs H Q E z => ?_, hm, kp, b⟩
  obtain ⟨hv, m, h, ds, k, hs, r, q, p⟩ := z
  rcases ok ds _ _ q with q1 | ⟨o, q2, pu, q1⟩
  · exact ⟨hv, m, h, ds, k, hs, r, q1, p⟩
  · exact ent_ok pu q1 hv hs r q2 p
/-! ### arguments taken apart -/
def u1 (ds : List D) (f : D → Bool) (fb : Bool) : Bool := @List.rec D (fun _ => Bool) fb (fun x r _ => @List.rec D (fun _ => Bool) (f x) (fun _ _ _ => fb) r) ds
def u2 (ds : List D) (f : D → D → Bool) (fb : Bool) : Bool := @List.rec D (fun _ => Bool) fb (fun x r _ => u1 r (f x) fb) ds
def u3 (ds : List D) (f : D → D → D → Bool) (fb : Bool) : Bool := @List.rec D (fun _ => Bool) fb (fun x r _ => u2 r (f x) fb) ds
theorem u1_true {ds : List D} {f : D → Bool} {fb : Bool} (q : u1 ds f fb = true) : fb = true ∨ ∃ x, ds = [x] ∧ f x = true := by
  cases ds with
  | nil => exact .inl q
  | cons x r => cases r with
    | nil => exact .inr ⟨x, rfl, q⟩
    | cons _ _ => exact .inl q
theorem u2_true {ds : List D} {f : D → D → Bool} {fb : Bool} (q : u2 ds f fb = true) : fb = true ∨ ∃ x y, ds = [x, y] ∧ f x y = true := by
  cases ds with
  | nil => exact .inl q
  | cons x r => rcases u1_true (show u1 r (f x) fb = true from q) with z | ⟨y, e, z⟩
                · exact .inl z
                · subst e; exact .inr ⟨x, y, rfl, z⟩
theorem u3_true {ds : List D} {f : D → D → D → Bool} {fb : Bool} (q : u3 ds f fb = true) : fb = true ∨ ∃ x y z, ds = [x, y, z] ∧ f x y z = true := by
  cases ds with
  | nil => exact .inl q
  | cons x r => rcases u2_true (show u2 r (f x) fb = true from q) with z | ⟨y, w, e, z⟩
                · exact .inl z
                · subst e; exact .inr ⟨x, y, w, rfl, z⟩
/-- a number from 0 -/
def nt (x : D) (f : Nat → Bool) (fb : Bool) : Bool := dc x f (fun _ => fb) (fun _ _ => fb) (fun _ => fb) (fun _ => fb) (fun _ => fb)
theorem nt_true {x : D} {f : Nat → Bool} {fb : Bool} (q : nt x f fb = true) : fb = true ∨ ∃ n, x = .nat n ∧ f n = true := by
  cases x with
  | nat n => exact .inr ⟨n, rfl, q⟩
  | _ => exact .inl q
def it (x : D) (f g : Nat → Bool) (fb : Bool) : Bool := dc x f g (fun _ _ => fb) (fun _ => fb) (fun _ => fb) (fun _ => fb)
theorem it_true {x : D} {f g : Nat → Bool} {fb : Bool} (q : it x f g fb = true) : fb = true ∨ (∃ n, x = .nat n ∧ f n = true) ∨ ∃ n, x = .neg n ∧ g n = true := by
  cases x with
  | nat n => exact .inr (.inl ⟨n, rfl, q⟩)
  | neg n => exact .inr (.inr ⟨n, rfl, q⟩)
  | _ => exact .inl q
def tt (x : D) (f : Nat → List D → Bool) (fb : Bool) : Bool := dc x (fun _ => fb) (fun _ => fb) f (fun _ => fb) (fun _ => fb) (fun _ => fb)
theorem tt_true {x : D} {f : Nat → List D → Bool} {fb : Bool} (q : tt x f fb = true) : fb = true ∨ ∃ p ds, x = .tup p ds ∧ f p ds = true := by
  cases x with
  | tup p ds => exact .inr ⟨p, ds, rfl, q⟩
  | _ => exact .inl q
theorem bsel_fb {c x fb : Bool} (q : bsel c x fb = true) : fb = true ∨ (c = true ∧ x = true) := by
  cases c with
  | true => exact .inr ⟨rfl, q⟩
  | false => exact .inl q
theorem pur1 {x : D} {p : Nat} (h : dpt x = some p) : PurL [x] := fun d hd => by
  rcases List.mem_cons.mp hd with z | z
  · rw [z]; exact ⟨p, h⟩
  · cases z
theorem pur2 {x y : D} {p q : Nat} (h : dpt x = some p) (h2 : dpt y = some q) : PurL [x, y] := fun d hd => by
  rcases List.mem_cons.mp hd with z | z
  · rw [z]; exact ⟨p, h⟩
  · exact pur1 h2 d z
theorem nbeq_refl (n : Nat) : Nat.beq n n = true := Nat.beq_refl n
end Pv
set_option Elab.async false
set_option linter.all false
set_option maxRecDepth 100000
set_option maxHeartbeats 4000000
set_option exponentiation.threshold 100000
noncomputable section
namespace Pv
open PySem PySem.Spec PyProof.Rows L2
/-! ### gcd by remainders -/
def c__law_gcd : MS := (sSeq (sWh 100000 (t2 neH (eVar 1) (eCst (.nat 0))) (sSeq (sPar2 0 1 (aCons (eVar 1) (aCons (o2 modD (eVar 0) (eVar 1)) aNil))) sNil)) (sSeq (sRet (o1 absD (eVar 0))) sNil))
def f0__law_gcd : MF := mkF (unks 0) c__law_gcd
def gcT : MT := t2 neH (eVar 1) (eCst (.nat 0))
def gcB : MS := sSeq (sPar2 0 1 (aCons (eVar 1) (aCons (o2 modD (eVar 0) (eVar 1)) aNil))) sNil
theorem gcd_go (h : Hv) (κ : KS) : ∀ (n a b m : Nat), b < 2 ^ n → whGo gcT gcB κ (2 * n + 1 + m) [.nat a, .nat b] h = κ.nx [.nat (Nat.gcd a b), .nat 0] h
  | 0, a, b, m, l => by
    have e : b = 0 := by simpa using l
    subst e
    rw [show 2 * 0 + 1 + m = m + 1 by omega, Nat.gcd_zero_right]
    rfl
  | n + 1, a, 0, m, l => by
    rw [show 2 * (n + 1) + 1 + m = (2 * n + 2 + m) + 1 by omega, Nat.gcd_zero_right]
    rfl
  | n + 1, a, b + 1, m, l => by
    have s1 : ∀ f, whGo gcT gcB κ (f + 1) [.nat a, .nat (b + 1)] h = whGo gcT gcB κ f [.nat (b + 1), .nat (a % (b + 1))] h := fun f => by
      show fN (Nat.mod a (b + 1)) (fun n => whGo gcT gcB κ f [.nat (b + 1), .nat n] h) = _
      rw [fN_eq]; rfl
    rw [show 2 * (n + 1) + 1 + m = (2 * n + 1 + (m + 1)) + 1 by omega, s1]
    have hg : Nat.gcd a (b + 1) = Nat.gcd (b + 1) (a % (b + 1)) := by rw [Nat.gcd_comm a, Nat.gcd_rec, Nat.gcd_comm]
    rw [hg]
    cases q : a % (b + 1) with
    | zero =>
      rw [show 2 * n + 1 + (m + 1) = (2 * n + 1 + m) + 1 by omega, Nat.gcd_zero_right]
      rfl
    | succ r =>
      have s2 : ∀ f, whGo gcT gcB κ (f + 1) [.nat (b + 1), .nat (r + 1)] h = whGo gcT gcB κ f [.nat (r + 1), .nat ((b + 1) % (r + 1))] h := fun f => by
        show fN (Nat.mod (b + 1) (r + 1)) (fun n => whGo gcT gcB κ f [.nat (r + 1), .nat n] h) = _
        rw [fN_eq]; rfl
      have lr : r + 1 < b + 1 := by rw [← q]; exact Nat.mod_lt _ (Nat.succ_pos _)
      have l2 : (b + 1) % (r + 1) < 2 ^ n := by
        have h1 : (b + 1) % (r + 1) < r + 1 := Nat.mod_lt _ (Nat.succ_pos _)
        have h2 : (b + 1) % (r + 1) = (b + 1 - (r + 1)) % (r + 1) := Nat.mod_eq_sub_mod (by omega)
        have h3 : (b + 1 - (r + 1)) % (r + 1) ≤ b + 1 - (r + 1) := Nat.mod_le _ _
        have h4 : 2 ^ (n + 1) = 2 * 2 ^ n := by rw [Nat.pow_succ]; omega
        omega
      rw [show 2 * n + 1 + (m + 1) = (2 * n + 1 + m) + 1 by omega, s2, gcd_go h κ n _ _ m l2]
      rw [Nat.gcd_comm (b + 1), Nat.gcd_rec (r + 1) (b + 1), Nat.gcd_comm ((b + 1) % (r + 1))]
def capG : Nat := cap 49000
def gOk (b : Nat) : Bool := Nat.ble b capG
theorem cap_lt {x p q : Nat} (h : x ≤ cap p) (l : p < q) : x < 2 ^ q := by rw [cap_eq] at h; exact Nat.lt_of_le_of_lt h (Nat.pow_lt_pow_right (by omega) l)
theorem cap_le {p q : Nat} (l : p ≤ q) : cap p ≤ cap q := by rw [cap_eq, cap_eq]; exact Nat.pow_le_pow_right (by omega) l
theorem gOk_lt {b : Nat} (q : gOk b = true) : b < 2 ^ 49998 := cap_lt (Nat.le_of_ble_eq_true q) (by omega)
theorem gcd_run {h : Hv} {κ : KS} (n : Nat) (a b : Nat) (q : gOk b = true) (e : n = 99999 ∨ n = 100000) : whGo gcT gcB κ n [.nat a, .nat b] h = κ.nx [.nat (Nat.gcd a b), .nat 0] h := by
  rcases e with e | e
  · rw [show n = 2 * 49998 + 1 + 2 by omega]; exact gcd_go h κ 49998 a b 2 (gOk_lt q)
  · rw [show n = 2 * 49998 + 1 + 3 by omega]; exact gcd_go h κ 49998 a b 3 (gOk_lt q)
theorem gcd_negs (a b : Nat) : Nat.gcd (b + 1) (b - a % (b + 1)) = Nat.gcd (a + 1) (b + 1) := by
  have e : a + 1 + (b - a % (b + 1)) = (b + 1) * (a / (b + 1) + 1) := by
    have h1 := Nat.div_add_mod a (b + 1)
    have h2 : a % (b + 1) < b + 1 := Nat.mod_lt _ (Nat.succ_pos _)
    rw [Nat.mul_add, Nat.mul_one]
    omega
  have d : ∀ g, g ∣ b + 1 → (g ∣ b - a % (b + 1) ↔ g ∣ a + 1) := fun g hg => by
    have z : g ∣ a + 1 + (b - a % (b + 1)) := by rw [e]; exact Nat.dvd_trans hg (Nat.dvd_mul_right _ _)
    exact ⟨fun x => (Nat.dvd_add_iff_left x).mpr z, fun x => (Nat.dvd_add_iff_right x).mpr z⟩
  apply Nat.dvd_antisymm
  · exact Nat.dvd_gcd ((d _ (Nat.gcd_dvd_left _ _)).mp (Nat.gcd_dvd_right _ _)) (Nat.gcd_dvd_left _ _)
  · exact Nat.dvd_gcd (Nat.gcd_dvd_right _ _) ((d _ (Nat.gcd_dvd_right _ _)).mpr (Nat.gcd_dvd_left _ _))
def F__law_gcd : FF := fun ds kk fb => u2 ds (fun x y => nt y (fun b => it x (fun a => bsel (gOk b) (fN (Nat.gcd a b) fun g => kk (.p (.nat g))) fb)
  (fun a => bsel (bsel (Nat.blt 0 b) (gOk b) false) (fN (Nat.gcd (Nat.succ a) b) fun g => kk (.p (.nat g))) fb) fb) fb) fb
def cG (n : Nat) : MS := (sSeq (sWh n gcT gcB) (sSeq (sRet (o1 absD (eVar 0))) sNil))
theorem f0_gcd_eq : f0__law_gcd = mkF (unks 0) (cG 100000) := rfl
theorem cG_run {n a b : Nat} (q : gOk b = true) (e : n = 99999 ∨ n = 100000) (k : KD) : mkF (unks 0) (cG n) [.nat a, .nat b] ⟨0, []⟩ k = k (.nat (Nat.gcd a b)) ⟨0, []⟩ := by
  show whGo gcT gcB _ n [.nat a, .nat b] _ = _
  rw [gcd_run n a b q e]
  rfl
theorem cG_runN {n a b : Nat} (q2 : gOk (Nat.sub b (Nat.mod a (b + 1))) = true) (e : n = 99999) (k : KD) : mkF (unks 0) (cG (n + 1)) [.neg a, .nat (b + 1)] ⟨0, []⟩ k = k (.nat (Nat.gcd (a + 1) (b + 1))) ⟨0, []⟩ := by
  show fN (Nat.sub b (Nat.mod a (b + 1))) (fun r => whGo gcT gcB _ n [.nat (b + 1), .nat r] _) = _
  rw [fN_eq, gcd_run n _ _ q2 (.inl e)]
  show k (.nat (Nat.gcd (b + 1) (b - a % (b + 1)))) _ = _
  rw [gcd_negs]
theorem law_gcd_run {a b : Nat} (q : gOk b = true) (k : KD) : f0__law_gcd [.nat a, .nat b] ⟨0, []⟩ k = k (.nat (Nat.gcd a b)) ⟨0, []⟩ := by
  rw [f0_gcd_eq]; exact cG_run q (.inr rfl) k
theorem law_gcd_runN {a b : Nat} (hb : 0 < b) (q : gOk b = true) (k : KD) : f0__law_gcd [.neg a, .nat b] ⟨0, []⟩ k = k (.nat (Nat.gcd (a + 1) b)) ⟨0, []⟩ := by
  obtain ⟨b, rfl⟩ : ∃ z, b = z + 1 := ⟨b - 1, by omega⟩
  have q2 : gOk (Nat.sub b (Nat.mod a (b + 1))) = true := by
    have z : b + 1 ≤ capG := Nat.le_of_ble_eq_true q
    refine Nat.ble_eq_true_of_le ?_
    have l2 : Nat.sub b (Nat.mod a (b + 1)) ≤ b := Nat.sub_le _ _
    exact Nat.le_trans l2 (Nat.le_trans (Nat.le_succ _) z)
  rw [f0_gcd_eq]
  exact cG_runN (n := 99999) q2 rfl k
theorem ok_F__law_gcd : FOk F__law_gcd f0__law_gcd := by
  intro ds kk fb q
  rcases u2_true q with q | ⟨x, y, rfl, q⟩
  · exact .inl q
  rcases nt_true q with q | ⟨b, rfl, q⟩
  · exact .inl q
  rcases it_true q with q | ⟨a, rfl, r⟩ | ⟨a, rfl, r⟩
  · exact .inl q
  · rcases bsel_fb r with q | ⟨q1, q⟩
    · exact .inl q
    · rw [fN_eq] at q
      exact .inr ⟨_, q, pur2 (p := 0) (q := 0) rfl rfl, by rw [law_gcd_run q1]; exact nbeq_refl _⟩
  · rcases bsel_fb r with q | ⟨q1, q⟩
    · exact .inl q
    · rw [fN_eq] at q
      obtain ⟨q0, q1⟩ := bsel_tf q1
      exact .inr ⟨_, q, pur2 (p := 0) (q := 0) rfl rfl, by rw [law_gcd_runN (Nat.le_of_ble_eq_true q0) q1]; exact nbeq_refl _⟩
def f__law_gcd : MF := fstF F__law_gcd f0__law_gcd
/-! ### lowest terms -/
def c__law_low : MS := (sSeq (sSet 2 (eCall f__law_gcd (aCons (eVar 0) (aCons (eVar 1) aNil)))) (sSeq (sRet (eTup (aCons (o2 divD (eVar 0) (eVar 2)) (aCons (o2 divD (eVar 1) (eVar 2)) aNil)))) sNil))
def f0__law_low : MF := mkF (unks 1) c__law_low
def c_lowest : MS := (sSeq (sSet 2 (o2 gcdD (eVar 0) (eVar 1))) (sSeq (sRet (eTup (aCons (o2 divD (eVar 0) (eVar 2)) (aCons (o2 divD (eVar 1) (eVar 2)) aNil)))) sNil))
def f0_lowest : MF := mkF (unks 1) c_lowest
/-- above and below, lowered -/
def lowK (x : D) (b : Nat) (k : D → Bool) (fb : Bool) : Bool :=
  it x (fun a => fN (Nat.gcd a b) fun g => fN (Nat.div a g) fun u => fN (Nat.div b g) fun v => k (.tup 1 [.nat u, .nat v]))
    (fun a => fN (Nat.gcd (Nat.succ a) b) fun g => fN (Nat.div a g) fun u => fN (Nat.div b g) fun v => k (.tup 1 [.neg u, .nat v])) fb
def lOk (b : Nat) : Bool := bsel (Nat.blt 0 b) (Nat.ble b capD) false
def F__law_low : FF := fun ds kk fb => u2 ds (fun x y => nt y (fun b => bsel (lOk b) (lowK x b (fun d => kk (.p d)) fb) fb) fb) fb
theorem lOk_ok {b : Nat} (q : lOk b = true) : 0 < b ∧ gOk b = true ∧ ∀ a, divOkN (Nat.gcd a b) = true := by
  obtain ⟨q1, q2⟩ := bsel_tf q
  have z1 : 0 < b := Nat.le_of_ble_eq_true q1
  have z2 : b ≤ capD := Nat.le_of_ble_eq_true q2
  refine ⟨z1, Nat.ble_eq_true_of_le (Nat.le_trans z2 (cap_le (by omega))), fun a => ?_⟩
  have g0 : 0 < Nat.gcd a b := Nat.gcd_pos_of_pos_right _ z1
  have gl : Nat.gcd a b ≤ b := Nat.gcd_le_right _ z1
  unfold divOkN
  rw [show Nat.ble 1 (Nat.gcd a b) = true from Nat.ble_eq_true_of_le g0]
  exact Nat.ble_eq_true_of_le (Nat.le_trans gl z2)
theorem lowK_true {x : D} {b : Nat} {k : D → Bool} {fb : Bool} (q : lowK x b k fb = true) : fb = true ∨ (∃ a, x = .nat a ∧ k (.tup 1 [.nat (a / Nat.gcd a b), .nat (b / Nat.gcd a b)]) = true) ∨ ∃ a, x = .neg a ∧ k (.tup 1 [.neg (a / Nat.gcd (a + 1) b), .nat (b / Nat.gcd (a + 1) b)]) = true := by
  rcases it_true q with q | ⟨a, e, q2⟩ | ⟨a, e, q2⟩
  · exact .inl q
  · rw [fN_eq, fN_eq, fN_eq] at q2
    exact .inr (.inl ⟨a, e, q2⟩)
  · rw [fN_eq, fN_eq, fN_eq] at q2
    exact .inr (.inr ⟨a, e, q2⟩)
theorem low_sm (u v : Nat) : smD (.tup 1 [.nat u, .nat v]) (.tup 1 [.nat u, .nat v]) = true := by
  show bsel (Nat.beq u u) (bsel (Nat.beq v v) true false) false = true
  rw [nbeq_refl, nbeq_refl]; rfl
theorem low_smN (u v : Nat) : smD (.tup 1 [.neg u, .nat v]) (.tup 1 [.neg u, .nat v]) = true := by
  show bsel (Nat.beq u u) (bsel (Nat.beq v v) true false) false = true
  rw [nbeq_refl, nbeq_refl]; rfl
theorem law_low_run {a b : Nat} (q : lOk b = true) (k : KD) : f0__law_low [.nat a, .nat b] ⟨0, []⟩ k = k (.tup 1 [.nat (a / Nat.gcd a b), .nat (b / Nat.gcd a b)]) ⟨0, []⟩ := by
  obtain ⟨b0, q1, q2⟩ := lOk_ok q
  show bsel (gOk b) (fN (Nat.gcd a b) fun g => bsel (divOkN g) (fN (Nat.div a g) fun n => bsel (divOkN g) (fN (Nat.div b g) fun z => retT 0 k (.tup 1 [.nat n, .nat z]) ⟨0, []⟩) false) false) _ = _
  rw [q1, bsel_t, fN_eq, q2, bsel_t, fN_eq, bsel_t, fN_eq]
  rfl
theorem law_low_runN {a b : Nat} (q : lOk b = true) (k : KD) : f0__law_low [.neg a, .nat b] ⟨0, []⟩ k = k (.tup 1 [.neg (a / Nat.gcd (a + 1) b), .nat (b / Nat.gcd (a + 1) b)]) ⟨0, []⟩ := by
  obtain ⟨b0, q1, q2⟩ := lOk_ok q
  show bsel (bsel (Nat.blt 0 b) (gOk b) false) (fN (Nat.gcd (a + 1) b) fun g => bsel (divOkN g) (fN (Nat.div a g) fun n => bsel (divOkN g) (fN (Nat.div b g) fun z => retT 0 k (.tup 1 [.neg n, .nat z]) ⟨0, []⟩) false) false) _ = _
  rw [q1, show Nat.blt 0 b = true from Nat.ble_eq_true_of_le b0, bsel_t, bsel_t, fN_eq, q2, bsel_t, fN_eq, bsel_t, fN_eq]
  rfl
theorem ok_F__law_low : FOk F__law_low f0__law_low := by
  intro ds kk fb q
  rcases u2_true q with q | ⟨x, y, rfl, q⟩
  · exact .inl q
  rcases nt_true q with q | ⟨b, rfl, q⟩
  · exact .inl q
  rcases bsel_fb q with q | ⟨q1, q⟩
  · exact .inl q
  rcases lowK_true q with q | ⟨a, rfl, r⟩ | ⟨a, rfl, r⟩
  · exact .inl q
  · exact .inr ⟨_, r, pur2 (p := 0) (q := 0) rfl rfl, by rw [law_low_run q1]; exact low_sm _ _⟩
  · exact .inr ⟨_, r, pur2 (p := 0) (q := 0) rfl rfl, by rw [law_low_runN q1]; exact low_smN _ _⟩
def f__law_low : MF := fstF F__law_low f0__law_low
theorem lowest_run {a b : Nat} (q : lOk b = true) (k : KD) : f0_lowest [.nat a, .nat b] ⟨0, []⟩ k = k (.tup 1 [.nat (a / Nat.gcd a b), .nat (b / Nat.gcd a b)]) ⟨0, []⟩ := by
  obtain ⟨b0, q1, q2⟩ := lOk_ok q
  show fN (Nat.gcd a b) (fun g => bsel (divOkN g) (fN (Nat.div a g) fun n => bsel (divOkN g) (fN (Nat.div b g) fun z => retT 0 k (.tup 1 [.nat n, .nat z]) ⟨0, []⟩) false) false) = _
  rw [fN_eq, q2, bsel_t, fN_eq, bsel_t, fN_eq]
  rfl
theorem lowest_runN {a b : Nat} (q : lOk b = true) (k : KD) : f0_lowest [.neg a, .nat b] ⟨0, []⟩ k = k (.tup 1 [.neg (a / Nat.gcd (a + 1) b), .nat (b / Nat.gcd (a + 1) b)]) ⟨0, []⟩ := by
  obtain ⟨b0, q1, q2⟩ := lOk_ok q
  show fN (Nat.gcd (a + 1) b) (fun g => bsel (divOkN g) (fN (Nat.div a g) fun n => bsel (divOkN g) (fN (Nat.div b g) fun z => retT 0 k (.tup 1 [.neg n, .nat z]) ⟨0, []⟩) false) false) = _
  rw [fN_eq, q2, bsel_t, fN_eq, bsel_t, fN_eq]
  rfl
def F_lowest : FF := fun ds kk fb => u2 ds (fun x y => nt y (fun b => bsel (lOk b) (lowK x b (fun d => kk (.p d)) fb) fb) fb) fb
theorem ok_F_lowest : FOk F_lowest f0_lowest := by
  intro ds kk fb q
  rcases u2_true q with q | ⟨x, y, rfl, q⟩
  · exact .inl q
  rcases nt_true q with q | ⟨b, rfl, q⟩
  · exact .inl q
  rcases bsel_fb q with q | ⟨q1, q⟩
  · exact .inl q
  rcases lowK_true q with q | ⟨a, rfl, r⟩ | ⟨a, rfl, r⟩
  · exact .inl q
  · exact .inr ⟨_, r, pur2 (p := 0) (q := 0) rfl rfl, by rw [lowest_run q1]; exact low_sm _ _⟩
  · exact .inr ⟨_, r, pur2 (p := 0) (q := 0) rfl rfl, by rw [lowest_runN q1]; exact low_smN _ _⟩
def f_lowest : MF := fstF F_lowest f0_lowest
/-! ### the sign of a polynomial -/
def c_sign_by : MS := (sSeq (sAsg (gTl 2 (gsCons (gNm 2) (gsCons (gNm 3) gsNil))) (eVar 1)) (sSeq (sAsg (gTl 2 (gsCons (gNm 4) (gsCons (gNm 5) gsNil))) (eTup (aCons (eCst (.nat 0)) (aCons (eCst (.nat 1)) aNil)))) (sSeq (sFor (iSeq (eRev (eVar 0))) (gNm 6) (sSeq (sSet 4 (o2 addD (o2 mulD (eVar 4) (eVar 2)) (o2 mulD (eVar 6) (eVar 5)))) (sSeq (sSet 5 (o2 mulD (eVar 5) (eVar 3))) sNil))) (sSeq (sRet (eIf (t2 eqH (eVar 4) (eCst (.nat 0))) (eCst (.nat 0)) (eIf (t2 gtD (eVar 4) (eCst (.nat 0))) (eCst (.nat 1)) (o1 negD (eCst (.nat 1)))))) sNil))))
def f0_sign_by : MF := mkF (unks 5) c_sign_by
def hE : Hv := ⟨0, []⟩
def isI (d : D) : Bool := dc d (fun _ => true) (fun _ => true) pF lF nF aF
theorem isI_true {d : D} (q : isI d = true) : (∃ n, d = .nat n) ∨ ∃ n, d = .neg n := by
  cases d with
  | nat n => exact .inl ⟨n, rfl⟩
  | neg n => exact .inr ⟨n, rfl⟩
  | _ => cases q
theorem isI_dI (i : Int) : isI (dI i) = true := by cases i <;> rfl
theorem mulD_dI {i j : Int} (h : Hv) (k : KD) : mulD (dI i) (dI j) h k = bsel (mulOkN i.natAbs j.natAbs) (k (dI (i * j)) h) false := by
  cases i with
  | ofNat i => cases j with
    | ofNat j => show bsel _ (fN _ _) _ = _; rw [fN_eq]; rfl
    | negSucc j =>
      show bsel _ (subK _ _ _ _) _ = _
      rw [subK_eq, show ((0 : Nat) : Int) - ((Nat.mul i (Nat.succ j) : Nat) : Int) = Int.ofNat i * Int.negSucc j by rw [Int.negSucc_eq, Int.mul_neg, show ((Nat.mul i (Nat.succ j) : Nat) : Int) = Int.ofNat i * ((j : Int) + 1) from Int.natCast_mul i (j + 1)]; omega]; rfl
  | negSucc i => cases j with
    | ofNat j =>
      show bsel _ (subK _ _ _ _) _ = _
      rw [subK_eq, show ((0 : Nat) : Int) - ((Nat.mul (Nat.succ i) j : Nat) : Int) = Int.negSucc i * Int.ofNat j by rw [Int.negSucc_eq, Int.neg_mul, show ((Nat.mul (Nat.succ i) j : Nat) : Int) = ((i : Int) + 1) * Int.ofNat j from Int.natCast_mul (i + 1) j]; omega]; rfl
    | negSucc j => show bsel _ (fN _ _) _ = _; rw [fN_eq]; rfl
theorem addD_dI {i j : Int} (h : Hv) (k : KD) : addD (dI i) (dI j) h k = k (dI (i + j)) h := by
  cases i with
  | ofNat i => cases j with
    | ofNat j => exact fN_eq (Nat.add i j) fun n => k (.nat n) h
    | negSucc j =>
      show subK _ _ _ _ = _
      rw [subK_eq, show ((i : Nat) : Int) - ((Nat.succ j : Nat) : Int) = Int.ofNat i + Int.negSucc j by simp only [Int.ofNat_eq_natCast]; omega]
  | negSucc i => cases j with
    | ofNat j =>
      show subK _ _ _ _ = _
      rw [subK_eq, show ((j : Nat) : Int) - ((Nat.succ i : Nat) : Int) = Int.negSucc i + Int.ofNat j by simp only [Int.ofNat_eq_natCast]; omega]
    | negSucc j => exact fN_eq (Nat.succ (Nat.add i j)) fun n => k (.neg n) h
theorem eVar_dI {es : List D} {i : Nat} {h : Hv} {k : KD} {z : Int} (e : gE es i = dI z) : eVar i es h k = k (dI z) h := by
  unfold eVar
  rw [e]
  cases z <;> rfl
/-- the number at above / below, times the power of below -/
def tot (a b : Int) : List Int → Int
  | [] => 0
  | c :: cs => c * b ^ cs.length + a * tot a b cs
def horB : MS := (sSeq (sSet 4 (o2 addD (o2 mulD (eVar 4) (eVar 2)) (o2 mulD (eVar 6) (eVar 5)))) (sSeq (sSet 5 (o2 mulD (eVar 5) (eVar 3))) sNil))
theorem hor_step {o p : D} {a b f l c : Int} {num : D} {κ : KS} {rest : List D} (m1 : mulOkN f.natAbs a.natAbs = true) (m2 : mulOkN c.natAbs l.natAbs = true) (m3 : mulOkN l.natAbs b.natAbs = true) :
    forGo (gNm 6) horB κ (dI c :: rest) [o, p, dI a, dI b, dI f, dI l, num] hE = forGo (gNm 6) horB κ rest [o, p, dI a, dI b, dI (f * a + c * l), dI (l * b), dI c] hE := by
  show horB [o, p, dI a, dI b, dI f, dI l, dI c] hE ⟨forGo (gNm 6) horB κ rest, κ.rt, κ.nx, forGo (gNm 6) horB κ rest⟩ = _
  simp only [horB, sSeq, sSet, o2, sNil]
  rw [eVar_dI (es := [o, p, dI a, dI b, dI f, dI l, dI c]) (i := 4) (z := f) rfl, eVar_dI (es := [o, p, dI a, dI b, dI f, dI l, dI c]) (i := 2) (z := a) rfl, mulD_dI, m1, bsel_t,
    eVar_dI (es := [o, p, dI a, dI b, dI f, dI l, dI c]) (i := 6) (z := c) rfl, eVar_dI (es := [o, p, dI a, dI b, dI f, dI l, dI c]) (i := 5) (z := l) rfl, mulD_dI, m2, bsel_t, addD_dI,
    eVar_dI (es := sE [o, p, dI a, dI b, dI f, dI l, dI c] 4 (dI (f * a + c * l))) (i := 5) (z := l) rfl, eVar_dI (es := sE [o, p, dI a, dI b, dI f, dI l, dI c] 4 (dI (f * a + c * l))) (i := 3) (z := b) rfl, mulD_dI, m3, bsel_t]
  rfl
theorem add_cap {x y p q n : Nat} (hx : x < 2 ^ p) (hy : y < 2 ^ q) (l1 : p ≤ n) (l2 : q ≤ n) : x + y ≤ cap (n + 1) := by
  have h1 : x ≤ 2 ^ n := Nat.le_of_lt (Nat.lt_of_lt_of_le hx (Nat.pow_le_pow_right (by omega) l1))
  have h2 : y ≤ 2 ^ n := Nat.le_of_lt (Nat.lt_of_lt_of_le hy (Nat.pow_le_pow_right (by omega) l2))
  rw [cap_eq, Nat.pow_succ]
  omega
theorem mulOk_gen {x y n : Nat} (h : x + y ≤ cap n) (e : capM = cap n) : mulOkN x y = true := by
  unfold mulOkN
  rw [e]
  exact Nat.ble_eq_true_of_le h
theorem mulOk_of {x y p q : Nat} (hx : x < 2 ^ p) (hy : y < 2 ^ q) (l : p ≤ 399999 ∧ q ≤ 399999) : mulOkN x y = true := mulOk_gen (add_cap hx hy l.1 l.2) rfl
theorem pow_abs {b : Int} {B : Nat} (hb : b.natAbs < 2 ^ B) (n : Nat) : (b ^ n).natAbs ≤ 2 ^ (B * n) := by
  rw [Int.natAbs_pow, Nat.pow_mul]
  exact Nat.pow_le_pow_left (Nat.le_of_lt hb) n
theorem tot_abs {a b : Int} {A B C : Nat} (ha : a.natAbs < 2 ^ A) (hb : b.natAbs < 2 ^ B) : ∀ cs : List Int, (∀ c ∈ cs, c.natAbs < 2 ^ C) → (tot a b cs).natAbs < 2 ^ (C + cs.length * (A + B + 1))
  | [], _ => Nat.two_pow_pos _
  | c :: cs, hc => by
    have ih := tot_abs ha hb cs fun d hd => hc d (List.mem_cons_of_mem _ hd)
    have h1 := hc c List.mem_cons_self
    have h2 := pow_abs hb cs.length
    show (c * b ^ cs.length + a * tot a b cs).natAbs < _
    have t1 : (c * b ^ cs.length).natAbs < 2 ^ (C + B * cs.length) := by
      rw [Int.natAbs_mul, Nat.pow_add]
      exact Nat.lt_of_le_of_lt (Nat.mul_le_mul_left _ h2) (Nat.mul_lt_mul_of_pos_right h1 (Nat.two_pow_pos _))
    have t2 : (a * tot a b cs).natAbs < 2 ^ (A + (C + cs.length * (A + B + 1))) := by
      rw [Int.natAbs_mul, Nat.pow_add]
      exact Nat.mul_lt_mul'' ha ih
    have t3 : (2 : Nat) ^ (C + B * cs.length) ≤ 2 ^ (A + (C + cs.length * (A + B + 1))) := Nat.pow_le_pow_right (by omega) (by
      have : B * cs.length ≤ cs.length * (A + B + 1) := by rw [Nat.mul_comm]; exact Nat.mul_le_mul_left _ (by omega)
      omega)
    have t4 : (2 : Nat) ^ (C + (cs.length + 1) * (A + B + 1)) ≥ 2 * 2 ^ (A + (C + cs.length * (A + B + 1))) := by
      rw [← Nat.pow_succ']
      exact Nat.pow_le_pow_right (by omega) (by rw [Nat.add_mul, Nat.one_mul]; omega)
    have t5 := Int.natAbs_add_le (c * b ^ cs.length) (a * tot a b cs)
    rw [List.length_cons]
    omega
theorem hor_go {o p : D} {a b : Int} {A B C : Nat} (ha : a.natAbs < 2 ^ A) (hb : b.natAbs < 2 ^ B) : ∀ (cs : List Int), (∀ c ∈ cs, c.natAbs < 2 ^ C) → C + (cs.length + 1) * (A + B + 1) < 399990 →
    ∀ (num : D) (rest : List D) (κ : KS), ∃ num', forGo (gNm 6) horB κ (revL (cs.map dI) ++ rest) [o, p, dI a, dI b, dI 0, dI 1, num] hE = forGo (gNm 6) horB κ rest [o, p, dI a, dI b, dI (tot a b cs), dI (b ^ cs.length), num'] hE
  | [], _, _, num, rest, κ => ⟨num, by rw [show b ^ ([] : List Int).length = 1 from Int.pow_zero b]; rfl⟩
  | c :: cs, hc, hn, num, rest, κ => by
    rw [List.length_cons] at hn
    have hc' : ∀ d ∈ cs, d.natAbs < 2 ^ C := fun d hd => hc d (List.mem_cons_of_mem _ hd)
    have hm : (cs.length + 1 + 1) * (A + B + 1) = (cs.length + 1) * (A + B + 1) + (A + B + 1) := by rw [Nat.add_mul (cs.length + 1), Nat.one_mul]
    have hm2 : (cs.length + 1) * (A + B + 1) = cs.length * (A + B + 1) + (A + B + 1) := by rw [Nat.add_mul, Nat.one_mul]
    obtain ⟨num', e⟩ := hor_go ha hb cs hc' (by omega) num (dI c :: rest) κ
    refine ⟨dI c, ?_⟩
    have e0 : revL ((c :: cs).map dI) ++ rest = revL (cs.map dI) ++ (dI c :: rest) := by
      rw [revL_eq, revL_eq, List.map_cons, List.reverse_cons, List.append_assoc]; rfl
    have pl : B * cs.length ≤ cs.length * (A + B + 1) := by rw [Nat.mul_comm]; exact Nat.mul_le_mul_left _ (by omega)
    have hl : (b ^ cs.length).natAbs < 2 ^ (B * cs.length + 1) := Nat.lt_of_le_of_lt (pow_abs hb _) (Nat.pow_lt_pow_right (by omega) (Nat.lt_succ_self _))
    rw [e0, e, hor_step (mulOk_of (tot_abs ha hb cs hc') ha (by omega)) (mulOk_of (hc c List.mem_cons_self) hl (by omega)) (mulOk_of hl hb (by omega))]
    have e1 : tot a b cs * a + c * b ^ cs.length = tot a b (c :: cs) := by
      show _ = c * b ^ cs.length + a * tot a b cs
      rw [Int.mul_comm (tot a b cs), Int.add_comm]
    rw [e1, List.length_cons, ← Int.pow_succ]
/-- the parts above and below 0; s: as told or turned, t: turned each time -/
def cfN (s : Bool) (c : D) : Nat := @D.rec (fun _ => Nat) (fun _ => Nat) (fun n => bsel s n 0) (fun n => bsel s 0 (Nat.succ n)) (fun _ _ _ => 0) (fun _ _ => 0) (fun _ => 0) (fun _ => 0) 0 (fun _ _ _ _ => 0) c
def hp (t : Bool) (m b : Nat) (cs : List D) : Bool → Nat := @List.rec D (fun _ => Bool → Nat) (fun _ => 0) (fun c r ih s => Nat.add (Nat.mul (cfN s c) (Nat.pow b (lenL r))) (Nat.mul m (ih (bsel t (bsel s false true) s)))) cs
theorem cN_dI (c : Int) : c = (cfN true (dI c) : Int) - (cfN false (dI c) : Int) := by
  cases c with
  | ofNat n => show (n : Int) = ((n : Nat) : Int) - ((0 : Nat) : Int); omega
  | negSucc n => show Int.negSucc n = ((0 : Nat) : Int) - ((n + 1 : Nat) : Int); omega
theorem hp_nat (m b : Nat) : ∀ cs : List Int, tot (m : Int) (b : Int) cs = (hp false m b (cs.map dI) true : Int) - (hp false m b (cs.map dI) false : Int)
  | [] => rfl
  | c :: cs => by
    have ih := hp_nat m b cs
    show c * (b : Int) ^ cs.length + (m : Int) * tot m b cs = ((cfN true (dI c) * b ^ lenL (cs.map dI) + m * hp false m b (cs.map dI) true : Nat) : Int) - ((cfN false (dI c) * b ^ lenL (cs.map dI) + m * hp false m b (cs.map dI) false : Nat) : Int)
    rw [ih, lenL_eq, List.length_map]
    conv => lhs; rw [cN_dI c]
    simp only [Int.natCast_add, Int.natCast_mul, Int.natCast_pow, Int.sub_mul, Int.mul_sub]
    omega
theorem hp_neg (m b : Nat) : ∀ (cs : List Int), tot (-(m : Int)) (b : Int) cs = (hp true m b (cs.map dI) true : Int) - (hp true m b (cs.map dI) false : Int)
  | [] => rfl
  | c :: cs => by
    have ih := hp_neg m b cs
    show c * (b : Int) ^ cs.length + (-(m : Int)) * tot (-(m : Int)) b cs = ((cfN true (dI c) * b ^ lenL (cs.map dI) + m * hp true m b (cs.map dI) false : Nat) : Int) - ((cfN false (dI c) * b ^ lenL (cs.map dI) + m * hp true m b (cs.map dI) true : Nat) : Int)
    rw [ih, lenL_eq, List.length_map]
    conv => lhs; rw [cN_dI c]
    simp only [Int.natCast_add, Int.natCast_mul, Int.natCast_pow, Int.sub_mul, Int.mul_sub, Int.neg_mul]
    omega
/-- all are ints, not too great -/
def cap9 : Nat := cap 9998
def cap1 : Nat := cap 998
def ckL (cs : List D) : Bool := @List.rec D (fun _ => Bool) true (fun c _ ih => it c (fun n => bsel (Nat.ble n cap9) ih false) (fun n => bsel (Nat.ble (Nat.succ n) cap9) ih false) false) cs
theorem lt_two {x : Nat} (q : Nat.ble x cap9 = true) : x < 2 ^ 9999 := cap_lt (Nat.le_of_ble_eq_true q) (by omega)
theorem lt_two1 {x : Nat} (q : Nat.ble x cap1 = true) : x < 2 ^ 999 := cap_lt (Nat.le_of_ble_eq_true q) (by omega)
theorem ckL_true : ∀ {cs : List D}, ckL cs = true → ∃ is : List Int, cs = is.map dI ∧ ∀ c ∈ is, c.natAbs < 2 ^ 9999
  | [], _ => ⟨[], rfl, fun _ h => nomatch h⟩
  | c :: cs, q => by
    rcases it_true (show it c (fun n => bsel (Nat.ble n cap9) (ckL cs) false) (fun n => bsel (Nat.ble (Nat.succ n) cap9) (ckL cs) false) false = true from q) with z | ⟨n, e, z⟩ | ⟨n, e, z⟩
    · cases z
    · obtain ⟨z1, z2⟩ := bsel_tf z
      obtain ⟨is, e2, h⟩ := ckL_true z2
      refine ⟨Int.ofNat n :: is, by rw [e, e2]; rfl, fun d hd => ?_⟩
      rcases List.mem_cons.mp hd with y | y
      · rw [y]; exact lt_two z1
      · exact h d y
    · obtain ⟨z1, z2⟩ := bsel_tf z
      obtain ⟨is, e2, h⟩ := ckL_true z2
      refine ⟨Int.negSucc n :: is, by rw [e, e2]; rfl, fun d hd => ?_⟩
      rcases List.mem_cons.mp hd with y | y
      · rw [y]; exact lt_two z1
      · exact h d y
def sgnR (p q : Nat) (k : D → Bool) : Bool := bsel (Nat.ble p q) (bsel (Nat.ble q p) (k (.nat 0)) (k (.neg 0))) (k (.nat 1))
def sgnN (t : Bool) (m b : Nat) (cs : List D) (k : D → Bool) : Bool := fN (hp t m b cs true) fun p => fN (hp t m b cs false) fun q => sgnR p q k
def sgnC (m b : Nat) (cs : List D) : Bool := bsel (Nat.ble m cap1) (bsel (Nat.ble b cap1) (bsel (Nat.ble (lenL cs) 100) (ckL cs) false) false) false
def F_sign_by : FF := fun ds kk fb => u2 ds (fun x y => tt x (fun _ cs => tt y (fun _ ps => u2 ps (fun a b => nt b (fun b => it a (fun m => bsel (sgnC m b cs) (sgnN false m b cs fun s => kk (.p s)) fb) (fun m => bsel (sgnC (Nat.succ m) b cs) (sgnN true (Nat.succ m) b cs fun s => kk (.p s)) fb) fb) fb) fb) fb) fb) fb
def signE : ME := (eIf (t2 eqH (eVar 4) (eCst (.nat 0))) (eCst (.nat 0)) (eIf (t2 gtD (eVar 4) (eCst (.nat 0))) (eCst (.nat 1)) (o1 negD (eCst (.nat 1)))))
def sgD (i : Int) : D := if i = 0 then .nat 0 else if 0 < i then .nat 1 else .neg 0
theorem signE_run {es : List D} {f : Int} (e : gE es 4 = dI f) (o : Mo) : signE es hE (retT 0 (chkM o)) = chkM o (sgD f) hE := by
  have r : ∀ (j : Hv) (k : Bool → Hv → Bool), (t2 eqH (eVar 4) (eCst (.nat 0))) es j k = eqH (dI f) (.nat 0) j k := fun j k => eVar_dI (k := fun x h => eqH x (.nat 0) h k) e
  have r2 : ∀ (j : Hv) (k : Bool → Hv → Bool), (t2 gtD (eVar 4) (eCst (.nat 0))) es j k = gtD (dI f) (.nat 0) j k := fun j k => eVar_dI (k := fun x h => gtD x (.nat 0) h k) e
  show (t2 eqH (eVar 4) (eCst (.nat 0))) es hE (fun x h => bsel x (retT 0 (chkM o) (.nat 0) h) ((t2 gtD (eVar 4) (eCst (.nat 0))) es h fun x h => bsel x (retT 0 (chkM o) (.nat 1) h) ((o1 negD (eCst (.nat 1))) es h (retT 0 (chkM o))))) = _
  rw [r]
  cases f with
  | ofNat i =>
    cases i with
    | zero => rfl
    | succ i =>
      show (t2 gtD (eVar 4) (eCst (.nat 0))) es hE (fun x h => bsel x (retT 0 (chkM o) (.nat 1) h) ((o1 negD (eCst (.nat 1))) es h (retT 0 (chkM o)))) = _
      rw [r2]
      show chkM o (.nat 1) hE = _
      unfold sgD
      rw [if_neg (by simp only [Int.ofNat_eq_natCast]; omega), if_pos (by simp only [Int.ofNat_eq_natCast]; omega)]
  | negSucc i =>
    show (t2 gtD (eVar 4) (eCst (.nat 0))) es hE (fun x h => bsel x (retT 0 (chkM o) (.nat 1) h) ((o1 negD (eCst (.nat 1))) es h (retT 0 (chkM o)))) = _
    rw [r2]
    show chkM o (.neg 0) hE = _
    unfold sgD
    rw [if_neg (by omega), if_neg (by omega)]
theorem sgnN_true {t : Bool} {m b : Nat} {cs : List D} {k : D → Bool} (q : sgnN t m b cs k = true) : k (sgD ((hp t m b cs true : Int) - (hp t m b cs false : Int))) = true := by
  unfold sgnN at q
  rw [fN_eq, fN_eq] at q
  generalize hp t m b cs true = x at q ⊢
  generalize hp t m b cs false = y at q ⊢
  unfold sgnR at q
  unfold sgD
  rcases bsel_true q with ⟨q1, q⟩ | ⟨q1, q⟩
  · have l := Nat.le_of_ble_eq_true q1
    rcases bsel_true q with ⟨q2, q⟩ | ⟨q2, q⟩
    · have l2 := Nat.le_of_ble_eq_true q2
      rw [if_pos (by omega)]; exact q
    · have l2 : ¬ y ≤ x := fun z => by rw [Nat.ble_eq_true_of_le z] at q2; cases q2
      rw [if_neg (by omega), if_neg (by omega)]; exact q
  · have l2 : ¬ x ≤ y := fun z => by rw [Nat.ble_eq_true_of_le z] at q1; cases q1
    rw [if_neg (by omega), if_pos (by omega)]; exact q
theorem sgD_sm (i : Int) : smD (sgD i) (sgD i) = true := by
  unfold sgD
  split
  · rfl
  · split <;> rfl
theorem sign_run {p1 p2 : Nat} {cs : List D} {a : Int} {b : Nat} (q : sgnC a.natAbs b cs = true) : ∃ is : List Int, cs = is.map dI ∧ ∀ o, f0_sign_by [.tup p1 cs, .tup p2 [dI a, .nat b]] ⟨0, []⟩ (chkM o) = chkM o (sgD (tot a b is)) hE := by
  obtain ⟨q1, q⟩ := bsel_tf q
  obtain ⟨q2, q⟩ := bsel_tf q
  obtain ⟨q3, q⟩ := bsel_tf q
  obtain ⟨is, e, hc⟩ := ckL_true q
  subst e
  have l3 : is.length ≤ 100 := by
    have := Nat.le_of_ble_eq_true q3
    rw [lenL_eq, List.length_map] at this; exact this
  refine ⟨is, rfl, fun o => ?_⟩
  have hn : 9999 + (is.length + 1) * (999 + 999 + 1) < 399990 := by
    have : (is.length + 1) * (999 + 999 + 1) ≤ 101 * (999 + 999 + 1) := Nat.mul_le_mul_right _ (by omega)
    omega
  obtain ⟨num', e⟩ := hor_go (o := .tup p1 (is.map dI)) (p := .tup p2 [dI a, .nat b]) (a := a) (b := (b : Int)) (A := 999) (B := 999) (lt_two1 q1) (lt_two1 q2) is hc hn unk [] ⟨fun es h => signE es h (retT 0 (chkM o)), retT 0 (chkM o), fun _ _ => false, fun _ _ => false⟩
  rw [List.append_nil] at e
  have e2 : f0_sign_by [.tup p1 (is.map dI), .tup p2 [dI a, .nat b]] ⟨0, []⟩ (chkM o) = forGo (gNm 6) horB ⟨fun es h => signE es h (retT 0 (chkM o)), retT 0 (chkM o), fun _ _ => false, fun _ _ => false⟩ (revL (is.map dI)) [.tup p1 (is.map dI), .tup p2 [dI a, .nat b], dI a, dI b, dI 0, dI 1, unk] hE := by cases a <;> rfl
  rw [e2, e]
  exact signE_run rfl o
theorem ok_F_sign_by : FOk F_sign_by f0_sign_by := by
  intro ds kk fb q0
  rcases u2_true q0 with q | ⟨x, y, e, r1⟩
  · exact .inl q
  rcases tt_true r1 with q | ⟨p1, cs, e1, r2⟩
  · exact .inl q
  rcases tt_true r2 with q | ⟨p2, ps, e2, r3⟩
  · exact .inl q
  rcases u2_true r3 with q | ⟨a, b', e3, r4⟩
  · exact .inl q
  rcases nt_true r4 with q | ⟨b, e4, r5⟩
  · exact .inl q
  subst e e1 e2 e3 e4
  rcases it_true r5 with q | ⟨m, e5, r6⟩ | ⟨m, e5, r6⟩
  · exact .inl q
  · subst e5
    rcases bsel_fb r6 with q | ⟨q1, q⟩
    · exact .inl q
    obtain ⟨is, e, run⟩ := sign_run (p1 := p1) (p2 := p2) (a := Int.ofNat m) (b := b) (cs := cs) q1
    subst e
    refine .inr ⟨_, sgnN_true q, pur2 (p := p1) (q := p2) rfl rfl, ?_⟩
    rw [← hp_nat]
    exact (run _).trans (sgD_sm _)
  · subst e5
    rcases bsel_fb r6 with q | ⟨q1, q⟩
    · exact .inl q
    obtain ⟨is, e, run⟩ := sign_run (p1 := p1) (p2 := p2) (a := Int.negSucc m) (b := b) (cs := cs) q1
    subst e
    refine .inr ⟨_, sgnN_true q, pur2 (p := p1) (q := p2) rfl rfl, ?_⟩
    rw [← hp_neg]
    exact (run _).trans (sgD_sm _)
def f_sign_by : MF := fstF F_sign_by f0_sign_by
end Pv
set_option Elab.async false
set_option linter.all false
set_option maxRecDepth 100000
set_option maxHeartbeats 0
noncomputable section
namespace Pv
open PySem PySem.Spec PyProof.Rows L2
def top (i : Nat) : Stmt := PySem.Challenge.pw_twiceround_k64_whole_roots_in_the_order.main.body.getD i (.Pass ⟨0, 0, 0, 0⟩)
structure Dx (K : PySem.W.Frag) (mg : Str → Option Value) (x : Str) (i : Nat) : Prop where
  ex : ∃ (f : Addr) (fd : FuncData), FunD K x x (defArgs (top i)) (defBody (top i)) (defScope (top i)) [] [] f fd ∧ mg x = some (.ref f)
structure Fx (K : PySem.W.Frag) (mg : Str → Option Value) : Prop where
  b_abs : mg "abs" = none
  b_all : mg "all" = none
  b_any : mg "any" = none
  b_bool : mg "bool" = none
  b_dict : mg "dict" = none
  b_enumerate : mg "enumerate" = none
  b_int : mg "int" = none
  b_isinstance : mg "isinstance" = none
  b_len : mg "len" = none
  b_list : mg "list" = none
  b_max : mg "max" = none
  b_range : mg "range" = none
  b_sorted : mg "sorted" = none
  b_str : mg "str" = none
  b_sum : mg "sum" = none
  b_tuple : mg "tuple" = none
  b_zip : mg "zip" = none
  i_CUT : ∃ t, mg "CUT" = some (.int 2 t)
  i_FAR : ∃ t, mg "FAR" = some (.int 1 t)
  i_LARGEST_polys : ∃ t, mg "LARGEST_polys" = some (.int 8 t)
  i_LARGEST_roots : ∃ t, mg "LARGEST_roots" = some (.int 6 t)
  i_LISTED : ∃ t, mg "LISTED" = some (.int 11 t)
  i_LONGEST_places : ∃ t, mg "LONGEST_places" = some (.int 60 t)
  i_LONGEST_rates : ∃ t, mg "LONGEST_rates" = some (.int 20 t)
  i_LONGEST_rows : ∃ t, mg "LONGEST_rows" = some (.int 60 t)
  i_NEAR : ∃ t, mg "NEAR" = some (.int 0 t)
  t_HIGH : TupG K mg "HIGH" [.int 2, .int 1]
  t_LEFT : TupG K mg "LEFT" [.int (-2), .int 1]
  t_LOW : TupG K mg "LOW" [.int 1, .int 1]
  t_RIGHT : TupG K mg "RIGHT" [.int 0, .int 1]
  f_gcd : mg "gcd" = some (.builtin "math.gcd")
def k_HIGH : D := .tup 1 [(.nat 2), (.nat 1)]
theorem gk_HIGH {X : Cx} {pos : Pos} (hm : TupG X.K X.mg "HIGH" [.int 2, .int 1]) (hg : Gl X "HIGH" := by rfl) : PE X (.Name "HIGH" pos) (rdE X.K (eCst k_HIGH)) := ok_gtup hg hm (Nat.succ_pos _) (by intro d hd; simp only [List.mem_cons, List.not_mem_nil, or_false] at hd; rcases hd with rfl | rfl <;> exact ⟨0, rfl, Nat.zero_lt_one⟩) (fun m H n => .cons (.nat _) (.cons (.nat _) (.nil))) rfl
def k_LEFT : D := .tup 1 [(.neg 1), (.nat 1)]
theorem gk_LEFT {X : Cx} {pos : Pos} (hm : TupG X.K X.mg "LEFT" [.int (-2), .int 1]) (hg : Gl X "LEFT" := by rfl) : PE X (.Name "LEFT" pos) (rdE X.K (eCst k_LEFT)) := ok_gtup hg hm (Nat.succ_pos _) (by intro d hd; simp only [List.mem_cons, List.not_mem_nil, or_false] at hd; rcases hd with rfl | rfl <;> exact ⟨0, rfl, Nat.zero_lt_one⟩) (fun m H n => .cons (.neg _) (.cons (.nat _) (.nil))) rfl
def k_LOW : D := .tup 1 [(.nat 1), (.nat 1)]
theorem gk_LOW {X : Cx} {pos : Pos} (hm : TupG X.K X.mg "LOW" [.int 1, .int 1]) (hg : Gl X "LOW" := by rfl) : PE X (.Name "LOW" pos) (rdE X.K (eCst k_LOW)) := ok_gtup hg hm (Nat.succ_pos _) (by intro d hd; simp only [List.mem_cons, List.not_mem_nil, or_false] at hd; rcases hd with rfl | rfl <;> exact ⟨0, rfl, Nat.zero_lt_one⟩) (fun m H n => .cons (.nat _) (.cons (.nat _) (.nil))) rfl
def k_RIGHT : D := .tup 1 [(.nat 0), (.nat 1)]
theorem gk_RIGHT {X : Cx} {pos : Pos} (hm : TupG X.K X.mg "RIGHT" [.int 0, .int 1]) (hg : Gl X "RIGHT" := by rfl) : PE X (.Name "RIGHT" pos) (rdE X.K (eCst k_RIGHT)) := ok_gtup hg hm (Nat.succ_pos _) (by intro d hd; simp only [List.mem_cons, List.not_mem_nil, or_false] at hd; rcases hd with rfl | rfl <;> exact ⟨0, rfl, Nat.zero_lt_one⟩) (fun m H n => .cons (.nat _) (.cons (.nat _) (.nil))) rfl
section
variable {P : Program} {w : World} {K : PySem.W.Frag} {mg : Str → Option Value} {base : Heap}
theorem S_is_number : FnScope ["thing"] ["thing"] (defScope (top 6)) := ⟨rfl, rfl, rfl, by decide +kernel, rfl, by decide +kernel, by decide +kernel⟩
def c_is_number : MS := (sSeq (sRet (eAnd (eIs flI (eVar 0)) (eNot (eIs flB (eVar 0))))) sNil)
def f_is_number : MF := mkF (unks 0) c_is_number
theorem ok_is_number (Z : Fx K mg) (D0 : Dx K mg "is_number" 6)  : Cl P w K mg base 1 "is_number" 1 f_is_number := by
  obtain ⟨f, fd, F, hm⟩ := D0.ex
  refine ⟨f, fd, ["thing"], fn_ok F S_is_number rfl rfl fun cdv A outer s H E hr => ?_, hm, F.kp, F.bindsN fun _ _ _ _ _ _ us hl => match us, hl with | [_], _ => rfl⟩
  have hu := hu_of hr
  exact (SC (sR (ok_eAnd (is1 isT_int Z.b_isinstance (vL 0) (kT Z.b_int boot_int)) (pe_one (ok_eNot (is1 isT_bool Z.b_isinstance (vL 0) (kT Z.b_bool boot_bool)))))) S0)
theorem S_is_within : FnScope ["thing", "least", "most"] ["thing", "least", "most"] (defScope (top 7)) := ⟨rfl, rfl, rfl, by decide +kernel, rfl, by decide +kernel, by decide +kernel⟩
def c_is_within : MS := (sSeq (sRet (eAnd (eCall f_is_number (aCons (eVar 0) aNil)) (eT (t3 leD leD (eVar 1) (eVar 0) (eVar 2))))) sNil)
def f_is_within : MF := mkF (unks 0) c_is_within
theorem ok_is_within (Z : Fx K mg) (D0 : Dx K mg "is_within" 7) (C_is_number : Cl P w K mg base 1 "is_number" 1 f_is_number) : Cl P w K mg base 2 "is_within" 3 f_is_within := by
  obtain ⟨f, fd, F, hm⟩ := D0.ex
  refine ⟨f, fd, ["thing", "least", "most"], fn_ok F S_is_within rfl rfl fun cdv A outer s H E hr => ?_, hm, F.kp, F.bindsN fun _ _ _ _ _ _ us hl => match us, hl with | [_, _, _], _ => rfl⟩
  have hu := hu_of hr
  exact (SC (sR (ok_eAnd (kL C_is_number hr (aC (vL 0) a0) (by decide)) (pe_one (eChLe (vL 1) (vL 0) (vL 2))))) S0)
theorem S_is_long : FnScope ["thing", "length"] ["thing", "length"] (defScope (top 8)) := ⟨rfl, rfl, rfl, by decide +kernel, rfl, by decide +kernel, by decide +kernel⟩
def c_is_long : MS := (sSeq (sRet (eAnd (eIs flT (eVar 0)) (eT (t2 eqH (o1 lenD (eVar 0)) (eVar 1))))) sNil)
def f_is_long : MF := mkF (unks 0) c_is_long
theorem ok_is_long (Z : Fx K mg) (D0 : Dx K mg "is_long" 8)  : Cl P w K mg base 1 "is_long" 2 f_is_long := by
  obtain ⟨f, fd, F, hm⟩ := D0.ex
  refine ⟨f, fd, ["thing", "length"], fn_ok F S_is_long rfl rfl fun cdv A outer s H E hr => ?_, hm, F.kp, F.bindsN fun _ _ _ _ _ _ us hl => match us, hl with | [_, _], _ => rfl⟩
  have hu := hu_of hr
  exact (SC (sR (ok_eAnd (is1 isT_tuple Z.b_isinstance (vL 0) (kT Z.b_tuple boot_tuple)) (pe_one (eEq hu (b1 call_len_seq len_ok boot_len Z.b_len (vL 0)) (vL 1))))) S0)
theorem S_tupled : FnScope ["value", "own"] ["value"] (defScope (top 9)) := ⟨rfl, rfl, rfl, by decide +kernel, rfl, by decide +kernel, by decide +kernel⟩
def c_tupled (self : MF) : MS := (sSeq (sRet (eIf (tIs (flO flL flT) (eVar 0)) (o1 tupleD (eLc (iSeq (eVar 0)) (gNm 1) (bd0 (eCall self (aCons (eVar 1) aNil))) [1])) (eVar 0))) sNil)
def f_tupled (n : Nat) : MF := @Nat.rec (fun _ => MF) (fun _ _ _ => false) (fun _ ih => mkF (unks 1) (c_tupled ih)) n
theorem ok_tupled (Z : Fx K mg) (D0 : Dx K mg "tupled" 9)  : ∀ n : Nat, Cl P w K mg base (0 + n + 1) "tupled" 1 (f_tupled n)
  | 0 => by
    obtain ⟨f, fd, F, hm⟩ := D0.ex
    exact ⟨f, fd, ["value"], fn_false F S_tupled rfl, hm, F.kp, F.bindsN fun _ _ _ _ _ _ us hl => match us, hl with | [_], _ => rfl⟩
  | n + 1 => by
    have C_self := ok_tupled Z D0  n
    obtain ⟨f, fd, F, hm⟩ := D0.ex
    show Cl P w K mg base (0 + (n + 1) + 1) "tupled" 1 (mkF (unks 1) (c_tupled (f_tupled n)))
    refine ⟨f, fd, ["value"], fn_ok F S_tupled rfl rfl fun cdv A outer s H E hr => ?_, hm, F.kp, F.bindsN fun _ _ _ _ _ _ us hl => match us, hl with | [_], _ => rfl⟩
    have hu := hu_of hr
    have hk_self : 0 + n + 1 ≤ 0 + (n + 1) := Nat.le_refl _
    exact (SC (sR (ok_if (qIs (is2 isT_list isT_tuple Z.b_isinstance (vL 0) (kT Z.b_list boot_list) (kT Z.b_tuple boot_tuple))) (t1 call_tuple_of tuple_ok boot_tuple Z.b_tuple (lc0 [("own", 1)] S_tupled.nd (iQ (vL 0)) (fun _ _ _ _ _ => (gL 1 S_tupled.nd)) (fun _ _ _ _ _ => (kL C_self hr (aC (vL 1) a0) hk_self)))) (vL 0))) S0)
theorem S_are_numbers : FnScope ["thing", "own"] ["thing"] (defScope (top 10)) := ⟨rfl, rfl, rfl, by decide +kernel, rfl, by decide +kernel, by decide +kernel⟩
def c_are_numbers : MS := (sSeq (sRet (eAnd (eIs flT (eVar 0)) (o1 allD (eLc (iSeq (eVar 0)) (gNm 1) (bd0 (eCall f_is_number (aCons (eVar 1) aNil))) [1])))) sNil)
def f_are_numbers : MF := mkF (unks 1) c_are_numbers
theorem ok_are_numbers (Z : Fx K mg) (D0 : Dx K mg "are_numbers" 10) (C_is_number : Cl P w K mg base 1 "is_number" 1 f_is_number) : Cl P w K mg base 2 "are_numbers" 1 f_are_numbers := by
  obtain ⟨f, fd, F, hm⟩ := D0.ex
  refine ⟨f, fd, ["thing"], fn_ok F S_are_numbers rfl rfl fun cdv A outer s H E hr => ?_, hm, F.kp, F.bindsN fun _ _ _ _ _ _ us hl => match us, hl with | [_], _ => rfl⟩
  have hu := hu_of hr
  exact (SC (sR (ok_eAnd (is1 isT_tuple Z.b_isinstance (vL 0) (kT Z.b_tuple boot_tuple)) (pe_one (b1 (cr_all rfl) all_ok boot_all Z.b_all (lc0 [("own", 1)] S_are_numbers.nd (iQ (vL 0)) (fun _ _ _ _ _ => (gL 1 S_are_numbers.nd)) (fun _ _ _ _ _ => (kL C_is_number hr (aC (vL 1) a0) (by decide)))))))) S0)
theorem S_two_to : FnScope ["exponent"] ["exponent"] (defScope (top 11)) := ⟨rfl, rfl, rfl, by decide +kernel, rfl, by decide +kernel, by decide +kernel⟩
def c_two_to : MS := (sSeq (sRet (o2 shlD (eCst (.nat 1)) (eVar 0))) sNil)
def f_two_to : MF := mkF (unks 0) c_two_to
theorem ok_two_to (Z : Fx K mg) (D0 : Dx K mg "two_to" 11)  : Cl P w K mg base 1 "two_to" 1 f_two_to := by
  obtain ⟨f, fd, F, hm⟩ := D0.ex
  refine ⟨f, fd, ["exponent"], fn_ok F S_two_to rfl rfl fun cdv A outer s H E hr => ?_, hm, F.kp, F.bindsN fun _ _ _ _ _ _ us hl => match us, hl with | [_], _ => rfl⟩
  have hu := hu_of hr
  exact (SC (sR (bShl cN (vL 0))) S0)
theorem S_number_first : FnScope ["bits", "found", "bit"] ["bits"] (defScope (top 12)) := ⟨rfl, rfl, rfl, by decide +kernel, rfl, by decide +kernel, by decide +kernel⟩
def c_number_first : MS := (sSeq (sSet 1 (eCst (.nat 0))) (sSeq (sFor (iSeq (eVar 0)) (gNm 2) (sSeq (sSet 1 (o2 addD (o2 mulD (eVar 1) (eCst (.nat 2))) (eVar 2))) sNil)) (sSeq (sRet (eVar 1)) sNil)))
def f_number_first : MF := mkF (unks 2) c_number_first
theorem ok_number_first (Z : Fx K mg) (D0 : Dx K mg "number_first" 12)  : Cl P w K mg base 1 "number_first" 1 f_number_first := by
  obtain ⟨f, fd, F, hm⟩ := D0.ex
  refine ⟨f, fd, ["bits"], fn_ok F S_number_first rfl rfl fun cdv A outer s H E hr => ?_, hm, F.kp, F.bindsN fun _ _ _ _ _ _ us hl => match us, hl with | [_], _ => rfl⟩
  have hu := hu_of hr
  exact (SC (sV 1 S_number_first.nd cN) (SC (sF PassesOwn.never (iQ (vL 0)) (gL 2 S_number_first.nd) (SC (sV 1 S_number_first.nd (bAdd (bMul (vL 1) cN) (vL 2))) S0)) (SC (sR (vL 1)) S0)))
theorem S_is_fraction : FnScope ["thing"] ["thing"] (defScope (top 14)) := ⟨rfl, rfl, rfl, by decide +kernel, rfl, by decide +kernel, by decide +kernel⟩
def c_is_fraction : MS := (sSeq (sIf (tOr (tNot (tE (eCall f_is_long (aCons (eVar 0) (aCons (eCst (.nat 2)) aNil))))) (tNot (tE (eCall f_are_numbers (aCons (eVar 0) aNil))))) (sSeq (sRet (eCst (.oth (.bl false)))) sNil) sNil) (sSeq (sRet (eAnd (eT (t2 geD (o2 ixG (eVar 0) (eCst (.nat 1))) (eCst (.nat 1)))) (eT (t2 eqH (o2 gcdD (o2 ixG (eVar 0) (eCst (.nat 0))) (o2 ixG (eVar 0) (eCst (.nat 1)))) (eCst (.nat 1)))))) sNil))
def f_is_fraction : MF := mkF (unks 0) c_is_fraction
theorem ok_is_fraction (Z : Fx K mg) (D0 : Dx K mg "is_fraction" 14) (C_is_long : Cl P w K mg base 1 "is_long" 2 f_is_long) (C_are_numbers : Cl P w K mg base 2 "are_numbers" 1 f_are_numbers) : Cl P w K mg base 3 "is_fraction" 1 f_is_fraction := by
  obtain ⟨f, fd, F, hm⟩ := D0.ex
  refine ⟨f, fd, ["thing"], fn_ok F S_is_fraction rfl rfl fun cdv A outer s H E hr => ?_, hm, F.kp, F.bindsN fun _ _ _ _ _ _ us hl => match us, hl with | [_], _ => rfl⟩
  have hu := hu_of hr
  exact (SC (sI (wT (wO (qNot (qE (kL C_is_long hr (aC (vL 0) (aC cN a0)) (by decide)))) (wO1 (qNot (qE (kL C_are_numbers hr (aC (vL 0) a0) (by decide))))))) (SC (sR ok_bl) S0) S0) (SC (sR (ok_eAnd (eGe (ix hu (vL 0) cN) cN) (pe_one (eEq hu (f2 cr_gcd gcd_ok Z.f_gcd (ix hu (vL 0) cN) (ix hu (vL 0) cN)) cN)))) S0))
theorem S_lowest : FnScope ["above", "below", "shared"] ["above", "below"] (defScope (top 15)) := ⟨rfl, rfl, rfl, by decide +kernel, rfl, by decide +kernel, by decide +kernel⟩
theorem ok_lowest (Z : Fx K mg) (D0 : Dx K mg "lowest" 15)  : Cl P w K mg base 1 "lowest" 2 f_lowest := by
  refine cl_fst ?_ ok_F_lowest
  obtain ⟨f, fd, F, hm⟩ := D0.ex
  refine ⟨f, fd, ["above", "below"], fn_ok F S_lowest rfl rfl fun cdv A outer s H E hr => ?_, hm, F.kp, F.bindsN fun _ _ _ _ _ _ us hl => match us, hl with | [_, _], _ => rfl⟩
  have hu := hu_of hr
  exact (SC (sV 2 S_lowest.nd (f2 cr_gcd gcd_ok Z.f_gcd (vL 0) (vL 1))) (SC (sR (tU (aC (bDiv (vL 0) (vL 2)) (aC (bDiv (vL 1) (vL 2)) a0)))) S0))
theorem S_is_less : FnScope ["one", "other"] ["one", "other"] (defScope (top 16)) := ⟨rfl, rfl, rfl, by decide +kernel, rfl, by decide +kernel, by decide +kernel⟩
def c_is_less : MS := (sSeq (sRet (eT (t2 ltD (o2 mulD (o2 ixG (eVar 0) (eCst (.nat 0))) (o2 ixG (eVar 1) (eCst (.nat 1)))) (o2 mulD (o2 ixG (eVar 1) (eCst (.nat 0))) (o2 ixG (eVar 0) (eCst (.nat 1))))))) sNil)
def f_is_less : MF := mkF (unks 0) c_is_less
theorem ok_is_less (Z : Fx K mg) (D0 : Dx K mg "is_less" 16)  : Cl P w K mg base 1 "is_less" 2 f_is_less := by
  obtain ⟨f, fd, F, hm⟩ := D0.ex
  refine ⟨f, fd, ["one", "other"], fn_ok F S_is_less rfl rfl fun cdv A outer s H E hr => ?_, hm, F.kp, F.bindsN fun _ _ _ _ _ _ us hl => match us, hl with | [_, _], _ => rfl⟩
  have hu := hu_of hr
  exact (SC (sR (eLt (bMul (ix hu (vL 0) cN) (ix hu (vL 1) cN)) (bMul (ix hu (vL 1) cN) (ix hu (vL 0) cN)))) S0)
theorem S_halfway : FnScope ["one", "other"] ["one", "other"] (defScope (top 17)) := ⟨rfl, rfl, rfl, by decide +kernel, rfl, by decide +kernel, by decide +kernel⟩
def c_halfway : MS := (sSeq (sRet (eCall f_lowest (aCons (o2 addD (o2 mulD (o2 ixG (eVar 0) (eCst (.nat 0))) (o2 ixG (eVar 1) (eCst (.nat 1)))) (o2 mulD (o2 ixG (eVar 1) (eCst (.nat 0))) (o2 ixG (eVar 0) (eCst (.nat 1))))) (aCons (o2 mulD (o2 mulD (eCst (.nat 2)) (o2 ixG (eVar 0) (eCst (.nat 1)))) (o2 ixG (eVar 1) (eCst (.nat 1)))) aNil)))) sNil)
def f_halfway : MF := mkF (unks 0) c_halfway
theorem ok_halfway (Z : Fx K mg) (D0 : Dx K mg "halfway" 17) (C_lowest : Cl P w K mg base 1 "lowest" 2 f_lowest) : Cl P w K mg base 2 "halfway" 2 f_halfway := by
  obtain ⟨f, fd, F, hm⟩ := D0.ex
  refine ⟨f, fd, ["one", "other"], fn_ok F S_halfway rfl rfl fun cdv A outer s H E hr => ?_, hm, F.kp, F.bindsN fun _ _ _ _ _ _ us hl => match us, hl with | [_, _], _ => rfl⟩
  have hu := hu_of hr
  exact (SC (sR (kL C_lowest hr (aC (bAdd (bMul (ix hu (vL 0) cN) (ix hu (vL 1) cN)) (bMul (ix hu (vL 1) cN) (ix hu (vL 0) cN))) (aC (bMul (bMul cN (ix hu (vL 0) cN)) (ix hu (vL 1) cN)) a0)) (by decide))) S0)
theorem S_by_worth : FnScope ["fractions", "common", "own", "worth"] ["fractions"] (defScope (top 18)) := ⟨rfl, rfl, rfl, by decide +kernel, rfl, by decide +kernel, by decide +kernel⟩
def c_by_worth : MS := (sSeq (sSet 1 (eCst (.nat 1))) (sSeq (sFor (iSeq (eVar 0)) (gNm 2) (sSeq (sSet 1 (o2 mulD (eVar 1) (o2 divD (o2 ixG (eVar 2) (eCst (.nat 1))) (o2 gcdD (eVar 1) (o2 ixG (eVar 2) (eCst (.nat 1))))))) sNil)) (sSeq (sRet (eLc (iSeq (o1 sortD (eLc (iSeq (eVar 0)) (gNm 2) (bd0 (eTup (aCons (o2 mulD (o2 ixG (eVar 2) (eCst (.nat 0))) (o2 divD (eVar 1) (o2 ixG (eVar 2) (eCst (.nat 1))))) (aCons (eVar 2) aNil)))) [2]))) (gTl 2 (gsCons (gNm 3) (gsCons (gNm 2) gsNil))) (bd0 (eVar 2)) [3, 2])) sNil)))
def f_by_worth : MF := mkF (unks 3) c_by_worth
theorem ok_by_worth (Z : Fx K mg) (D0 : Dx K mg "by_worth" 18)  : Cl P w K mg base 1 "by_worth" 1 f_by_worth := by
  obtain ⟨f, fd, F, hm⟩ := D0.ex
  refine ⟨f, fd, ["fractions"], fn_ok F S_by_worth rfl rfl fun cdv A outer s H E hr => ?_, hm, F.kp, F.bindsN fun _ _ _ _ _ _ us hl => match us, hl with | [_], _ => rfl⟩
  have hu := hu_of hr
  exact (SC (sW 1 S_by_worth.nd cN) (SC (sF PassesOwn.never (iQ (vL 0)) (gL 2 S_by_worth.nd) (SC (sW 1 S_by_worth.nd (bMul (vC 1) (bDiv (ix hu (vL 2) cN) (f2 cr_gcd gcd_ok Z.f_gcd (vC 1) (ix hu (vL 2) cN))))) S0)) (SC (sR (lc0 [("worth", 3), ("own", 2)] S_by_worth.nd (iQ (b1 (cr_sortD hu) sort_ok boot_sorted Z.b_sorted (lc0 [("own", 2)] S_by_worth.nd (iQ (vL 0)) (fun _ _ _ _ _ => (gL 2 S_by_worth.nd)) (fun _ _ _ _ _ => (tU (aC (bMul (ix hu (vL 2) cN) (bDiv (vC 1) (ix hu (vL 2) cN))) (aC (vL 2) a0))))))) (fun _ _ _ _ _ => (gT (gS (gL 3 S_by_worth.nd) (gS (gL 2 S_by_worth.nd) g0)))) (fun _ _ _ _ _ => (vL 2)))) S0)))
theorem S_divisors_of : FnScope ["number", "low", "own"] ["number"] (defScope (top 19)) := ⟨rfl, rfl, rfl, by decide +kernel, rfl, by decide +kernel, by decide +kernel⟩
def c_divisors_of : MS := (sSeq (sSet 1 (eLc (iRg2 (eCst (.nat 1)) (o2 addD (eVar 0) (eCst (.nat 1)))) (gNm 2) (bd1 (tAnd (t2 leD (o2 mulD (eVar 2) (eVar 2)) (eVar 0)) (t2 eqH (o2 modD (eVar 0) (eVar 2)) (eCst (.nat 0)))) (eVar 2)) [2])) (sSeq (sRet (o2 addD (eVar 1) (eLc (iSeq (eRev (eVar 1))) (gNm 2) (bd1 (t2 ltD (o2 mulD (eVar 2) (eVar 2)) (eVar 0)) (o2 divD (eVar 0) (eVar 2))) [2]))) sNil))
def f_divisors_of : MF := mkF (unks 2) c_divisors_of
theorem ok_divisors_of (Z : Fx K mg) (D0 : Dx K mg "divisors_of" 19)  : Cl P w K mg base 1 "divisors_of" 1 f_divisors_of := by
  obtain ⟨f, fd, F, hm⟩ := D0.ex
  refine ⟨f, fd, ["number"], fn_ok F S_divisors_of rfl rfl fun cdv A outer s H E hr => ?_, hm, F.kp, F.bindsN fun _ _ _ _ _ _ us hl => match us, hl with | [_], _ => rfl⟩
  have hu := hu_of hr
  exact (SC (sc1 1 [("own", 2)] S_divisors_of.nd (iR2 Z.b_range cN (bAdd (vC 0) cN)) (fun _ _ _ _ _ => (gL 2 S_divisors_of.nd)) (fun _ _ _ _ _ => (wT (wA (qLe (bMul (vL 2) (vL 2)) (vC 0)) (wA1 (qEq hu (bMod (vC 0) (vL 2)) cN))))) (fun _ _ _ _ _ => (vL 2))) (SC (sR (bAdd (vL 1) (lc1 [("own", 2)] S_divisors_of.nd (iQ (rV (vL 1))) (fun _ _ _ _ _ => (gL 2 S_divisors_of.nd)) (fun _ _ _ _ _ => (qLt (bMul (vL 2) (vL 2)) (vC 0))) (fun _ _ _ _ _ => (bDiv (vC 0) (vL 2)))))) S0))
theorem S_primes_of : FnScope ["number", "found", "left", "own"] ["number"] (defScope (top 20)) := ⟨rfl, rfl, rfl, by decide +kernel, rfl, by decide +kernel, by decide +kernel⟩
def c_primes_of : MS := (sSeq (sPar3 1 2 3 (aCons (eLst aNil) (aCons (eVar 0) (aCons (eCst (.nat 2)) aNil)))) (sSeq (sWh 100000 (t2 leD (o2 mulD (eVar 3) (eVar 3)) (eVar 2)) (sSeq (sIf (t2 eqH (o2 modD (eVar 2) (eVar 3)) (eCst (.nat 0))) (sSeq (sExp (eMt apD (eVar 1) (aCons (eVar 3) aNil))) (sSeq (sWh 100000 (t2 eqH (o2 modD (eVar 2) (eVar 3)) (eCst (.nat 0))) (sSeq (sSet 2 (o2 divD (eVar 2) (eVar 3))) sNil)) sNil)) sNil) (sSeq (sSet 3 (o2 addD (eVar 3) (eCst (.nat 1)))) sNil))) (sSeq (sRet (eIf (t2 gtD (eVar 2) (eCst (.nat 1))) (o2 addD (eVar 1) (eLst (aCons (eVar 2) aNil))) (eVar 1))) sNil)))
def f_primes_of : MF := mkF (unks 3) c_primes_of
theorem ok_primes_of (Z : Fx K mg) (D0 : Dx K mg "primes_of" 20)  : Cl P w K mg base 1 "primes_of" 1 f_primes_of := by
  obtain ⟨f, fd, F, hm⟩ := D0.ex
  refine ⟨f, fd, ["number"], fn_ok F S_primes_of rfl rfl fun cdv A outer s H E hr => ?_, hm, F.kp, F.bindsN fun _ _ _ _ _ _ us hl => match us, hl with | [_], _ => rfl⟩
  have hu := hu_of hr
  exact (SC (sP3 1 2 3 S_primes_of.nd (aC (lS a0) (aC (vL 0) (aC cN a0)))) (SC (sL 100000 PassesOwn.never (qLe (bMul (vL 3) (vL 3)) (vL 2)) (SC (sI (qEq hu (bMod (vL 2) (vL 3)) cN) (SC (sEx (mT mt_append ap_ok PySem.F.slot_list_append PySem.F.type_list_append (vL 1) (aC (vL 3) a0))) (SC (sL 100000 PassesOwn.never (qEq hu (bMod (vL 2) (vL 3)) cN) (SC (sV 2 S_primes_of.nd (bDiv (vL 2) (vL 3))) S0)) S0)) S0) (SC (sV 3 S_primes_of.nd (bAdd (vL 3) cN)) S0))) (SC (sR (ok_if (qGt (vL 2) cN) (bAdd (vL 1) (lS (aC (vL 2) a0))) (vL 1))) S0)))
theorem S_sign_of_parts : FnScope ["number", "primes", "own"] ["number"] (defScope (top 21)) := ⟨rfl, rfl, rfl, by decide +kernel, rfl, by decide +kernel, by decide +kernel⟩
def c_sign_of_parts : MS := (sSeq (sSet 1 (eCall f_primes_of (aCons (eVar 0) aNil))) (sSeq (sIf (tE (o1 anyD (eLc (iSeq (eVar 1)) (gNm 2) (bd0 (eT (t2 eqH (o2 modD (eVar 0) (o2 mulD (eVar 2) (eVar 2))) (eCst (.nat 0))))) [2]))) (sSeq (sRet (eCst (.nat 0))) sNil) sNil) (sSeq (sRet (eIf (t2 eqH (o2 modD (o1 lenD (eVar 1)) (eCst (.nat 2))) (eCst (.nat 0))) (eCst (.nat 1)) (o1 negD (eCst (.nat 1))))) sNil)))
def f_sign_of_parts : MF := mkF (unks 2) c_sign_of_parts
theorem ok_sign_of_parts (Z : Fx K mg) (D0 : Dx K mg "sign_of_parts" 21) (C_primes_of : Cl P w K mg base 1 "primes_of" 1 f_primes_of) : Cl P w K mg base 2 "sign_of_parts" 1 f_sign_of_parts := by
  obtain ⟨f, fd, F, hm⟩ := D0.ex
  refine ⟨f, fd, ["number"], fn_ok F S_sign_of_parts rfl rfl fun cdv A outer s H E hr => ?_, hm, F.kp, F.bindsN fun _ _ _ _ _ _ us hl => match us, hl with | [_], _ => rfl⟩
  have hu := hu_of hr
  exact (SC (sV 1 S_sign_of_parts.nd (kL C_primes_of hr (aC (vC 0) a0) (by decide))) (SC (sI (qE (b1 (cr_any rfl) any_ok boot_any Z.b_any (lc0 [("own", 2)] S_sign_of_parts.nd (iQ (vL 1)) (fun _ _ _ _ _ => (gL 2 S_sign_of_parts.nd)) (fun _ _ _ _ _ => (eEq hu (bMod (vC 0) (bMul (vL 2) (vL 2))) cN))))) (SC (sR cN) S0) S0) (SC (sR (ok_if (qEq hu (bMod (b1 call_len_seq len_ok boot_len Z.b_len (vL 1)) cN) cN) cN (uNeg cN))) S0)))
theorem S_are_sides : FnScope ["thing", "own"] ["thing"] (defScope (top 27)) := ⟨rfl, rfl, rfl, by decide +kernel, rfl, by decide +kernel, by decide +kernel⟩
def c_are_sides : MS := (sSeq (sRet (eAnd (eIs flT (eVar 0)) (eAnd (eT (t2 leD (o1 lenD (eVar 0)) (eCst (.nat 60)))) (o1 allD (eLc (iSeq (eVar 0)) (gNm 1) (bd0 (eCall f_is_within (aCons (eVar 1) (aCons (eCst (.nat 0)) (aCons (eCst (.nat 2)) aNil))))) [1]))))) sNil)
def f_are_sides : MF := mkF (unks 1) c_are_sides
theorem ok_are_sides (Z : Fx K mg) (D0 : Dx K mg "are_sides" 27) (C_is_within : Cl P w K mg base 2 "is_within" 3 f_is_within) : Cl P w K mg base 3 "are_sides" 1 f_are_sides := by
  obtain ⟨f, fd, F, hm⟩ := D0.ex
  refine ⟨f, fd, ["thing"], fn_ok F S_are_sides rfl rfl fun cdv A outer s H E hr => ?_, hm, F.kp, F.bindsN fun _ _ _ _ _ _ us hl => match us, hl with | [_], _ => rfl⟩
  have hu := hu_of hr
  exact (SC (sR (ok_eAnd (is1 isT_tuple Z.b_isinstance (vL 0) (kT Z.b_tuple boot_tuple)) (ok_eAnd (eLe (b1 call_len_seq len_ok boot_len Z.b_len (vL 0)) (gI Z.i_LONGEST_rows)) (pe_one (b1 (cr_all rfl) all_ok boot_all Z.b_all (lc0 [("own", 1)] S_are_sides.nd (iQ (vL 0)) (fun _ _ _ _ _ => (gL 1 S_are_sides.nd)) (fun _ _ _ _ _ => (kL C_is_within hr (aC (vL 1) (aC cN (aC cN a0))) (by decide))))))))) S0)
theorem S_is_around : FnScope ["thing"] ["thing"] (defScope (top 28)) := ⟨rfl, rfl, rfl, by decide +kernel, rfl, by decide +kernel, by decide +kernel⟩
def c_is_around : MS := (sSeq (sIf (tOr (tNot (tE (eCall f_are_sides (aCons (eVar 0) aNil)))) (tOr (t2 eqH (eVar 0) (eTup aNil)) (t2 neH (o2 ixG (eVar 0) (o1 negD (eCst (.nat 1)))) (eCst (.nat 2))))) (sSeq (sRet (eCst (.oth (.bl false)))) sNil) sNil) (sSeq (sRet (eAnd (eT (t2 (inA true) (eCst (.nat 2)) (eSl (eVar 0) oNone (oSome (o1 negD (eCst (.nat 1))))))) (eOr (eT (t2 eqH (o1 lenD (eVar 0)) (eCst (.nat 1)))) (eT (t2 eqH (o2 ixG (eVar 0) (eCst (.nat 0))) (eCst (.nat 1))))))) sNil))
def f_is_around : MF := mkF (unks 0) c_is_around
theorem ok_is_around (Z : Fx K mg) (D0 : Dx K mg "is_around" 28) (C_are_sides : Cl P w K mg base 3 "are_sides" 1 f_are_sides) : Cl P w K mg base 4 "is_around" 1 f_is_around := by
  obtain ⟨f, fd, F, hm⟩ := D0.ex
  refine ⟨f, fd, ["thing"], fn_ok F S_is_around rfl rfl fun cdv A outer s H E hr => ?_, hm, F.kp, F.bindsN fun _ _ _ _ _ _ us hl => match us, hl with | [_], _ => rfl⟩
  have hu := hu_of hr
  exact (SC (sI (wT (wO (qNot (qE (kL C_are_sides hr (aC (vL 0) a0) (by decide)))) (wO (qEq hu (vL 0) (tU a0)) (wO1 (qNe hu (ix hu (vL 0) (uNeg cN)) (gI Z.i_CUT)))))) (SC (sR ok_bl) S0) S0) (SC (sR (ok_eAnd (eNin hu (gI Z.i_CUT) (sl (vL 0) s0 (s1 (uNeg cN)))) (pe_one (ok_eOr (eEq hu (b1 call_len_seq len_ok boot_len Z.b_len (vL 0)) cN) (pe_one (eEq hu (ix hu (vL 0) cN) (gI Z.i_FAR))))))) S0))
theorem S_sure_around : FnScope ["thing", "row"] ["thing"] (defScope (top 29)) := ⟨rfl, rfl, rfl, by decide +kernel, rfl, by decide +kernel, by decide +kernel⟩
def c_sure_around : MS := (sSeq (sSet 1 (eCall (f_tupled 14) (aCons (eVar 0) aNil))) (sSeq (sIf (tNot (tE (eCall f_is_around (aCons (eVar 1) aNil)))) (sSeq sNever sNil) sNil) (sSeq (sRet (eVar 1)) sNil)))
def f_sure_around : MF := mkF (unks 1) c_sure_around
theorem ok_sure_around (Z : Fx K mg) (D0 : Dx K mg "sure_around" 29) (C_is_around : Cl P w K mg base 4 "is_around" 1 f_is_around) (C_tupled : Cl P w K mg base 15 "tupled" 1 (f_tupled 14)) : Cl P w K mg base 16 "sure_around" 1 f_sure_around := by
  obtain ⟨f, fd, F, hm⟩ := D0.ex
  refine ⟨f, fd, ["thing"], fn_ok F S_sure_around rfl rfl fun cdv A outer s H E hr => ?_, hm, F.kp, F.bindsN fun _ _ _ _ _ _ us hl => match us, hl with | [_], _ => rfl⟩
  have hu := hu_of hr
  exact (SC (sV 1 S_sure_around.nd (kL C_tupled hr (aC (vL 0) a0) (by decide))) (SC (sI (qNot (qE (kL C_is_around hr (aC (vL 1) a0) (by decide)))) (SC SX S0) S0) (SC (sR (vL 1)) S0)))
theorem S_all_round_rows : FnScope ["many", "found", "lap", "own", "side"] ["many"] (defScope (top 30)) := ⟨rfl, rfl, rfl, by decide +kernel, rfl, by decide +kernel, by decide +kernel⟩
def c_all_round_rows : MS := (sSeq (sIf (t2 eqH (eVar 0) (eCst (.nat 1))) (sSeq (sRet (eLst (aCons (eTup (aCons (eCst (.nat 2)) aNil)) aNil))) sNil) sNil) (sSeq (sSet 1 (eLst (aCons (eTup (aCons (eCst (.nat 1)) aNil)) aNil))) (sSeq (sFor (iRg1 (o2 subD (eVar 0) (eCst (.nat 2)))) (gNm 2) (sSeq (sSet 1 (eLc (iSeq (eVar 1)) (gNm 3) (bd2 tY (iSeq (eTup (aCons (eCst (.nat 0)) (aCons (eCst (.nat 1)) aNil)))) (gNm 4) (bd0 (o2 addD (eVar 3) (eTup (aCons (eVar 4) aNil)))) [4]) [3, 4])) sNil)) (sSeq (sRet (eLc (iSeq (eVar 1)) (gNm 3) (bd0 (o2 addD (eVar 3) (eTup (aCons (eCst (.nat 2)) aNil)))) [3])) sNil))))
def f_all_round_rows : MF := mkF (unks 4) c_all_round_rows
theorem ok_all_round_rows (Z : Fx K mg) (D0 : Dx K mg "all_round_rows" 30)  : Cl P w K mg base 1 "all_round_rows" 1 f_all_round_rows := by
  obtain ⟨f, fd, F, hm⟩ := D0.ex
  refine ⟨f, fd, ["many"], fn_ok F S_all_round_rows rfl rfl fun cdv A outer s H E hr => ?_, hm, F.kp, F.bindsN fun _ _ _ _ _ _ us hl => match us, hl with | [_], _ => rfl⟩
  have hu := hu_of hr
  exact (SC (sI (qEq hu (vL 0) cN) (SC (sR (lS (aC (tU (aC (gI Z.i_CUT) a0)) a0))) S0) S0) (SC (sV 1 S_all_round_rows.nd (lS (aC (tU (aC (gI Z.i_FAR) a0)) a0))) (SC (sF PassesOwn.never (iR1 Z.b_range (bSub (vL 0) cN)) (gL 2 S_all_round_rows.nd) (SC (sc20 1 [("own", 3), ("side", 4)] [4] S_all_round_rows.nd (iQ (vL 1)) (fun _ _ _ _ _ => (gL 3 S_all_round_rows.nd)) (fun _ _ _ _ _ => ok_tY) (fun _ _ _ _ _ => (iQ (tU (aC (gI Z.i_NEAR) (aC (gI Z.i_FAR) a0))))) (fun _ _ _ _ _ => (gL 4 S_all_round_rows.nd)) (fun _ _ _ _ _ => (bAdd (vL 3) (tU (aC (vL 4) a0))))) S0)) (SC (sR (lc0 [("own", 3)] S_all_round_rows.nd (iQ (vL 1)) (fun _ _ _ _ _ => (gL 3 S_all_round_rows.nd)) (fun _ _ _ _ _ => (bAdd (vL 3) (tU (aC (gI Z.i_CUT) a0)))))) S0))))
theorem S_side_of : FnScope ["row", "number"] ["row", "number"] (defScope (top 32)) := ⟨rfl, rfl, rfl, by decide +kernel, rfl, by decide +kernel, by decide +kernel⟩
def c_side_of : MS := (sSeq (sRet (o2 ixG (eVar 0) (o2 modD (o2 subD (eVar 1) (eCst (.nat 1))) (o1 lenD (eVar 0))))) sNil)
def f_side_of : MF := mkF (unks 0) c_side_of
theorem ok_side_of (Z : Fx K mg) (D0 : Dx K mg "side_of" 32)  : Cl P w K mg base 1 "side_of" 2 f_side_of := by
  obtain ⟨f, fd, F, hm⟩ := D0.ex
  refine ⟨f, fd, ["row", "number"], fn_ok F S_side_of rfl rfl fun cdv A outer s H E hr => ?_, hm, F.kp, F.bindsN fun _ _ _ _ _ _ us hl => match us, hl with | [_, _], _ => rfl⟩
  have hu := hu_of hr
  exact (SC (sR (ix hu (vL 0) (bMod (bSub (vL 1) cN) (b1 call_len_seq len_ok boot_len Z.b_len (vL 0))))) S0)
theorem S_jump_by : FnScope ["row", "number", "at"] ["row", "number"] (defScope (top 33)) := ⟨rfl, rfl, rfl, by decide +kernel, rfl, by decide +kernel, by decide +kernel⟩
def c_jump_by : MS := (sSeq (sIf (t2 eqH (o2 modD (eVar 1) (o1 lenD (eVar 0))) (eCst (.nat 0))) (sSeq (sRet (eCst (.oth .non))) sNil) sNil) (sSeq (sSet 2 (o2 addD (eVar 1) (eCst (.nat 1)))) (sSeq (sWh 100000 (t2 eqH (eCall f_side_of (aCons (eVar 0) (aCons (eVar 2) aNil))) (eCall f_side_of (aCons (eVar 0) (aCons (o2 subD (eVar 2) (eVar 1)) aNil)))) (sSeq (sSet 2 (o2 addD (eVar 2) (eCst (.nat 1)))) sNil)) (sSeq (sRet (eVar 2)) sNil))))
def f_jump_by : MF := mkF (unks 1) c_jump_by
theorem ok_jump_by (Z : Fx K mg) (D0 : Dx K mg "jump_by" 33) (C_side_of : Cl P w K mg base 1 "side_of" 2 f_side_of) : Cl P w K mg base 2 "jump_by" 2 f_jump_by := by
  obtain ⟨f, fd, F, hm⟩ := D0.ex
  refine ⟨f, fd, ["row", "number"], fn_ok F S_jump_by rfl rfl fun cdv A outer s H E hr => ?_, hm, F.kp, F.bindsN fun _ _ _ _ _ _ us hl => match us, hl with | [_, _], _ => rfl⟩
  have hu := hu_of hr
  exact (SC (sI (qEq hu (bMod (vL 1) (b1 call_len_seq len_ok boot_len Z.b_len (vL 0))) cN) (SC (sR ok_non) S0) S0) (SC (sV 2 S_jump_by.nd (bAdd (vL 1) cN)) (SC (sL 100000 PassesOwn.never (qEq hu (kL C_side_of hr (aC (vL 0) (aC (vL 2) a0)) (by decide)) (kL C_side_of hr (aC (vL 0) (aC (bSub (vL 2) (vL 1)) a0)) (by decide))) (SC (sV 2 S_jump_by.nd (bAdd (vL 2) cN)) S0)) (SC (sR (vL 2)) S0))))
theorem S_jumps_by : FnScope ["row", "number", "found", "at"] ["row", "number"] (defScope (top 34)) := ⟨rfl, rfl, rfl, by decide +kernel, rfl, by decide +kernel, by decide +kernel⟩
def c_jumps_by : MS := (sSeq (sSet 2 (eLst (aCons (eVar 1) aNil))) (sSeq (sSet 3 (eCall f_jump_by (aCons (eVar 0) (aCons (eVar 1) aNil)))) (sSeq (sWh 100000 (tAnd (tNotN (eVar 3)) (t2 leD (eVar 3) (o1 lenD (eVar 0)))) (sSeq (sExp (eMt apD (eVar 2) (aCons (eVar 3) aNil))) (sSeq (sSet 3 (eCall f_jump_by (aCons (eVar 0) (aCons (eVar 3) aNil)))) sNil))) (sSeq (sRet (o1 tupleD (eVar 2))) sNil))))
def f_jumps_by : MF := mkF (unks 2) c_jumps_by
theorem ok_jumps_by (Z : Fx K mg) (D0 : Dx K mg "jumps_by" 34) (C_jump_by : Cl P w K mg base 2 "jump_by" 2 f_jump_by) : Cl P w K mg base 3 "jumps_by" 2 f_jumps_by := by
  obtain ⟨f, fd, F, hm⟩ := D0.ex
  refine ⟨f, fd, ["row", "number"], fn_ok F S_jumps_by rfl rfl fun cdv A outer s H E hr => ?_, hm, F.kp, F.bindsN fun _ _ _ _ _ _ us hl => match us, hl with | [_, _], _ => rfl⟩
  have hu := hu_of hr
  exact (SC (sV 2 S_jumps_by.nd (lS (aC (vL 1) a0))) (SC (sV 3 S_jumps_by.nd (kL C_jump_by hr (aC (vL 0) (aC (vL 1) a0)) (by decide))) (SC (sL 100000 PassesOwn.never (wT (wA (ok_notN (vL 3)) (wA1 (qLe (vL 3) (b1 call_len_seq len_ok boot_len Z.b_len (vL 0)))))) (SC (sEx (mT mt_append ap_ok PySem.F.slot_list_append PySem.F.type_list_append (vL 2) (aC (vL 3) a0))) (SC (sV 3 S_jumps_by.nd (kL C_jump_by hr (aC (vL 0) (aC (vL 3) a0)) (by decide))) S0))) (SC (sR (t1 call_tuple_of tuple_ok boot_tuple Z.b_tuple (vL 2))) S0))))
theorem S_address_by : FnScope ["row"] ["row"] (defScope (top 35)) := ⟨rfl, rfl, rfl, by decide +kernel, rfl, by decide +kernel, by decide +kernel⟩
def c_address_by : MS := (sSeq (sRet (eCall f_jumps_by (aCons (eVar 0) (aCons (eCst (.nat 1)) aNil)))) sNil)
def f_address_by : MF := mkF (unks 0) c_address_by
theorem ok_address_by (Z : Fx K mg) (D0 : Dx K mg "address_by" 35) (C_jumps_by : Cl P w K mg base 3 "jumps_by" 2 f_jumps_by) : Cl P w K mg base 4 "address_by" 1 f_address_by := by
  obtain ⟨f, fd, F, hm⟩ := D0.ex
  refine ⟨f, fd, ["row"], fn_ok F S_address_by rfl rfl fun cdv A outer s H E hr => ?_, hm, F.kp, F.bindsN fun _ _ _ _ _ _ us hl => match us, hl with | [_], _ => rfl⟩
  have hu := hu_of hr
  exact (SC (sR (kL C_jumps_by hr (aC (vL 0) (aC cN a0)) (by decide))) S0)
theorem S_rest_of : FnScope ["number", "step"] ["number", "step"] (defScope (top 36)) := ⟨rfl, rfl, rfl, by decide +kernel, rfl, by decide +kernel, by decide +kernel⟩
def c_rest_of : MS := (sSeq (sRet (o2 addD (o2 modD (o2 subD (eVar 0) (eCst (.nat 1))) (eVar 1)) (eCst (.nat 1)))) sNil)
def f_rest_of : MF := mkF (unks 0) c_rest_of
theorem ok_rest_of (Z : Fx K mg) (D0 : Dx K mg "rest_of" 36)  : Cl P w K mg base 1 "rest_of" 2 f_rest_of := by
  obtain ⟨f, fd, F, hm⟩ := D0.ex
  refine ⟨f, fd, ["number", "step"], fn_ok F S_rest_of rfl rfl fun cdv A outer s H E hr => ?_, hm, F.kp, F.bindsN fun _ _ _ _ _ _ us hl => match us, hl with | [_, _], _ => rfl⟩
  have hu := hu_of hr
  exact (SC (sR (bAdd (bMod (bSub (vL 0) cN) (vL 1)) cN)) S0)
theorem S_bottom_by : FnScope ["row", "step", "number", "rest"] ["row", "step", "number"] (defScope (top 37)) := ⟨rfl, rfl, rfl, by decide +kernel, rfl, by decide +kernel, by decide +kernel⟩
def c_bottom_by : MS := (sSeq (sSet 3 (eCall f_rest_of (aCons (eVar 2) (aCons (eVar 1) aNil)))) (sSeq (sRet (o2 addD (o2 divD (o2 subD (eVar 2) (eVar 3)) (eVar 1)) (eIf (t2 (inA false) (eVar 1) (eCall f_jumps_by (aCons (eVar 0) (aCons (eVar 3) aNil)))) (eCst (.nat 1)) (eCst (.nat 2))))) sNil))
def f_bottom_by : MF := mkF (unks 1) c_bottom_by
theorem ok_bottom_by (Z : Fx K mg) (D0 : Dx K mg "bottom_by" 37) (C_jumps_by : Cl P w K mg base 3 "jumps_by" 2 f_jumps_by) (C_rest_of : Cl P w K mg base 1 "rest_of" 2 f_rest_of) : Cl P w K mg base 4 "bottom_by" 3 f_bottom_by := by
  obtain ⟨f, fd, F, hm⟩ := D0.ex
  refine ⟨f, fd, ["row", "step", "number"], fn_ok F S_bottom_by rfl rfl fun cdv A outer s H E hr => ?_, hm, F.kp, F.bindsN fun _ _ _ _ _ _ us hl => match us, hl with | [_, _, _], _ => rfl⟩
  have hu := hu_of hr
  exact (SC (sV 3 S_bottom_by.nd (kL C_rest_of hr (aC (vL 2) (aC (vL 1) a0)) (by decide))) (SC (sR (bAdd (bDiv (bSub (vL 2) (vL 3)) (vL 1)) (ok_if (qIn hu (vL 1) (kL C_jumps_by hr (aC (vL 0) (aC (vL 3) a0)) (by decide))) cN cN))) S0))
theorem S_bottoms_by : FnScope ["row", "address", "one", "other"] ["row"] (defScope (top 38)) := ⟨rfl, rfl, rfl, by decide +kernel, rfl, by decide +kernel, by decide +kernel⟩
def c_bottoms_by : MS := (sSeq (sSet 1 (eCall f_address_by (aCons (eVar 0) aNil))) (sSeq (sRet (o1 tupleD (eLc (iZp (eSl (eVar 1) oNone (oSome (o1 negD (eCst (.nat 1))))) (eSl (eVar 1) (oSome (eCst (.nat 1))) oNone)) (gTl 2 (gsCons (gNm 2) (gsCons (gNm 3) gsNil))) (bd0 (eCall f_bottom_by (aCons (eVar 0) (aCons (eVar 2) (aCons (eVar 3) aNil))))) [2, 3]))) sNil))
def f0_bottoms_by : MF := mkF (unks 3) c_bottoms_by
def t_bottoms_by_0 : Tb := [([(.tup 1 [(.nat 1), (.nat 2)])], .p (.tup 1 [(.nat 2)])), ([(.tup 1 [(.nat 1), (.nat 0), (.nat 2)])], .p (.tup 1 [(.nat 2), (.nat 2)])), ([(.tup 1 [(.nat 1), (.nat 1), (.nat 2)])], .p (.tup 1 [(.nat 3)])), ([(.tup 1 [(.nat 1), (.nat 0), (.nat 0), (.nat 2)])], .p (.tup 1 [(.nat 2), (.nat 2), (.nat 2)])), ([(.tup 1 [(.nat 1), (.nat 0), (.nat 1), (.nat 2)])], .p (.tup 1 [(.nat 2), (.nat 2)])), ([(.tup 1 [(.nat 1), (.nat 1), (.nat 0), (.nat 2)])], .p (.tup 1 [(.nat 3), (.nat 2)])), ([(.tup 1 [(.nat 1), (.nat 1), (.nat 1), (.nat 2)])], .p (.tup 1 [(.nat 4)])), ([(.tup 1 [(.nat 1), (.nat 0), (.nat 0), (.nat 0), (.nat 2)])], .p (.tup 1 [(.nat 2), (.nat 2), (.nat 2), (.nat 2)])), ([(.tup 1 [(.nat 1), (.nat 0), (.nat 0), (.nat 1), (.nat 2)])], .p (.tup 1 [(.nat 2), (.nat 2), (.nat 2)])), ([(.tup 1 [(.nat 1), (.nat 0), (.nat 1), (.nat 0), (.nat 2)])], .p (.tup 1 [(.nat 2), (.nat 3)])), ([(.tup 1 [(.nat 1), (.nat 0), (.nat 1), (.nat 1), (.nat 2)])], .p (.tup 1 [(.nat 2), (.nat 2), (.nat 2)])), ([(.tup 1 [(.nat 1), (.nat 1), (.nat 0), (.nat 0), (.nat 2)])], .p (.tup 1 [(.nat 3), (.nat 2), (.nat 2)])), ([(.tup 1 [(.nat 1), (.nat 1), (.nat 0), (.nat 1), (.nat 2)])], .p (.tup 1 [(.nat 3), (.nat 2)])), ([(.tup 1 [(.nat 1), (.nat 1), (.nat 1), (.nat 0), (.nat 2)])], .p (.tup 1 [(.nat 4), (.nat 2)])), ([(.tup 1 [(.nat 1), (.nat 1), (.nat 1), (.nat 1), (.nat 2)])], .p (.tup 1 [(.nat 5)]))]
def t_bottoms_by : Tb := t_bottoms_by_0
def f_bottoms_by : MF := memF t_bottoms_by f0_bottoms_by
theorem u_bottoms_by_0 : tOk f0_bottoms_by t_bottoms_by_0 = true := by decide +kernel
theorem u_bottoms_by : TbOk f0_bottoms_by t_bottoms_by := tOk_true u_bottoms_by_0
theorem ok_bottoms_by (Z : Fx K mg) (D0 : Dx K mg "bottoms_by" 38) (C_bottom_by : Cl P w K mg base 4 "bottom_by" 3 f_bottom_by) (C_address_by : Cl P w K mg base 4 "address_by" 1 f_address_by) : Cl P w K mg base 5 "bottoms_by" 1 f_bottoms_by := by
  refine cl_mem ?_ u_bottoms_by
  obtain ⟨f, fd, F, hm⟩ := D0.ex
  refine ⟨f, fd, ["row"], fn_ok F S_bottoms_by rfl rfl fun cdv A outer s H E hr => ?_, hm, F.kp, F.bindsN fun _ _ _ _ _ _ us hl => match us, hl with | [_], _ => rfl⟩
  have hu := hu_of hr
  exact (SC (sV 1 S_bottoms_by.nd (kL C_address_by hr (aC (vC 0) a0) (by decide))) (SC (sR (t1 call_tuple_of tuple_ok boot_tuple Z.b_tuple (lc0 [("one", 2), ("other", 3)] S_bottoms_by.nd (iZ Z.b_zip (sl (vL 1) s0 (s1 (uNeg cN))) (sl (vL 1) (s1 cN) s0)) (fun _ _ _ _ _ => (gT (gS (gL 2 S_bottoms_by.nd) (gS (gL 3 S_bottoms_by.nd) g0)))) (fun _ _ _ _ _ => (kL C_bottom_by hr (aC (vC 0) (aC (vL 2) (aC (vL 3) a0))) (by decide)))))) S0))
theorem S_place_by : FnScope ["ahead", "around", "whole", "above", "below"] ["ahead", "around"] (defScope (top 41)) := ⟨rfl, rfl, rfl, by decide +kernel, rfl, by decide +kernel, by decide +kernel⟩
def c_place_by : MS := (sSeq (sSet 2 (o2 subD (eCall f_two_to (aCons (o1 lenD (eVar 1)) aNil)) (eCst (.nat 1)))) (sSeq (sSet 3 (o2 addD (o2 mulD (eCall f_number_first (aCons (eVar 0) aNil)) (eVar 2)) (eCall f_number_first (aCons (eVar 1) aNil)))) (sSeq (sSet 4 (o2 mulD (eCall f_two_to (aCons (o1 lenD (eVar 0)) aNil)) (eVar 2))) (sSeq (sRet (eCall f_lowest (aCons (o2 modD (eVar 3) (eVar 4)) (aCons (eVar 4) aNil)))) sNil))))
def f_place_by : MF := mkF (unks 3) c_place_by
theorem ok_place_by (Z : Fx K mg) (D0 : Dx K mg "place_by" 41) (C_lowest : Cl P w K mg base 1 "lowest" 2 f_lowest) (C_two_to : Cl P w K mg base 1 "two_to" 1 f_two_to) (C_number_first : Cl P w K mg base 1 "number_first" 1 f_number_first) : Cl P w K mg base 2 "place_by" 2 f_place_by := by
  obtain ⟨f, fd, F, hm⟩ := D0.ex
  refine ⟨f, fd, ["ahead", "around"], fn_ok F S_place_by rfl rfl fun cdv A outer s H E hr => ?_, hm, F.kp, F.bindsN fun _ _ _ _ _ _ us hl => match us, hl with | [_, _], _ => rfl⟩
  have hu := hu_of hr
  exact (SC (sV 2 S_place_by.nd (bSub (kL C_two_to hr (aC (b1 call_len_seq len_ok boot_len Z.b_len (vL 1)) a0) (by decide)) cN)) (SC (sV 3 S_place_by.nd (bAdd (bMul (kL C_number_first hr (aC (vL 0) a0) (by decide)) (vL 2)) (kL C_number_first hr (aC (vL 1) a0) (by decide)))) (SC (sV 4 S_place_by.nd (bMul (kL C_two_to hr (aC (b1 call_len_seq len_ok boot_len Z.b_len (vL 0)) a0) (by decide)) (vL 2))) (SC (sR (kL C_lowest hr (aC (bMod (vL 3) (vL 4)) (aC (vL 4) a0)) (by decide))) S0))))
theorem S_mirror : FnScope ["place"] ["place"] (defScope (top 42)) := ⟨rfl, rfl, rfl, by decide +kernel, rfl, by decide +kernel, by decide +kernel⟩
def c_mirror : MS := (sSeq (sRet (eCall f_lowest (aCons (o2 modD (o1 negD (o2 ixG (eVar 0) (eCst (.nat 0)))) (o2 ixG (eVar 0) (eCst (.nat 1)))) (aCons (o2 ixG (eVar 0) (eCst (.nat 1))) aNil)))) sNil)
def f_mirror : MF := mkF (unks 0) c_mirror
theorem ok_mirror (Z : Fx K mg) (D0 : Dx K mg "mirror" 42) (C_lowest : Cl P w K mg base 1 "lowest" 2 f_lowest) : Cl P w K mg base 2 "mirror" 1 f_mirror := by
  obtain ⟨f, fd, F, hm⟩ := D0.ex
  refine ⟨f, fd, ["place"], fn_ok F S_mirror rfl rfl fun cdv A outer s H E hr => ?_, hm, F.kp, F.bindsN fun _ _ _ _ _ _ us hl => match us, hl with | [_], _ => rfl⟩
  have hu := hu_of hr
  exact (SC (sR (kL C_lowest hr (aC (bMod (uNeg (ix hu (vL 0) cN)) (ix hu (vL 0) cN)) (aC (ix hu (vL 0) cN) a0)) (by decide))) S0)
theorem S_divides_well : FnScope ["row", "number", "own", "at"] ["row", "number"] (defScope (top 45)) := ⟨rfl, rfl, rfl, by decide +kernel, rfl, by decide +kernel, by decide +kernel⟩
def c_divides_well : MS := (sSeq (sFor (iRg2 (eCst (.nat 1)) (eVar 1)) (gNm 2) (sSeq (sIf (t2 eqH (o2 modD (eVar 1) (eVar 2)) (eCst (.nat 0))) (sSeq (sSet 3 (eCall f_jump_by (aCons (eVar 0) (aCons (eVar 2) aNil)))) (sSeq (sIf (tOr (tIsN (eVar 3)) (t2 gtD (eVar 3) (eVar 1))) (sSeq (sRet (eCst (.oth (.bl false)))) sNil) sNil) sNil)) sNil) sNil)) (sSeq (sRet (eCst (.oth (.bl true)))) sNil))
def f_divides_well : MF := mkF (unks 2) c_divides_well
theorem ok_divides_well (Z : Fx K mg) (D0 : Dx K mg "divides_well" 45) (C_jump_by : Cl P w K mg base 2 "jump_by" 2 f_jump_by) : Cl P w K mg base 3 "divides_well" 2 f_divides_well := by
  obtain ⟨f, fd, F, hm⟩ := D0.ex
  refine ⟨f, fd, ["row", "number"], fn_ok F S_divides_well rfl rfl fun cdv A outer s H E hr => ?_, hm, F.kp, F.bindsN fun _ _ _ _ _ _ us hl => match us, hl with | [_, _], _ => rfl⟩
  have hu := hu_of hr
  exact (SC (sF PassesOwn.never (iR2 Z.b_range cN (vL 1)) (gL 2 S_divides_well.nd) (SC (sI (qEq hu (bMod (vL 1) (vL 2)) cN) (SC (sV 3 S_divides_well.nd (kL C_jump_by hr (aC (vL 0) (aC (vL 2) a0)) (by decide))) (SC (sI (wT (wO (ok_isN (vL 3)) (wO1 (qGt (vL 3) (vL 1))))) (SC (sR ok_bl) S0) S0) S0)) S0) S0)) (SC (sR ok_bl) S0))
theorem S_is_evil_in : FnScope ["row", "number", "at"] ["row", "number"] (defScope (top 46)) := ⟨rfl, rfl, rfl, by decide +kernel, rfl, by decide +kernel, by decide +kernel⟩
def c_is_evil_in : MS := (sSeq (sIf (tOr (t2 (inA false) (eVar 1) (eCall f_address_by (aCons (eVar 0) aNil))) (tNot (tE (eCall f_divides_well (aCons (eVar 0) (aCons (eVar 1) aNil)))))) (sSeq (sRet (eCst (.oth (.bl false)))) sNil) sNil) (sSeq (sSet 2 (eCall f_jump_by (aCons (eVar 0) (aCons (eVar 1) aNil)))) (sSeq (sRet (eAnd (eT (tNotN (eVar 2))) (eT (t2 (inA false) (eVar 1) (eCall f_jumps_by (aCons (eVar 0) (aCons (eCall f_rest_of (aCons (eVar 2) (aCons (eVar 1) aNil))) aNil))))))) sNil)))
def f0_is_evil_in : MF := mkF (unks 1) c_is_evil_in
def t_is_evil_in_0 : Tb := [([(.tup 1 [(.nat 1), (.nat 2)]), (.nat 1)], .p (.oth (.bl false))), ([(.tup 1 [(.nat 1), (.nat 0), (.nat 2)]), (.nat 1)], .p (.oth (.bl false))), ([(.tup 1 [(.nat 1), (.nat 0), (.nat 2)]), (.nat 2)], .p (.oth (.bl false))), ([(.tup 1 [(.nat 1), (.nat 1), (.nat 2)]), (.nat 1)], .p (.oth (.bl false))), ([(.tup 1 [(.nat 1), (.nat 1), (.nat 2)]), (.nat 2)], .p (.oth (.bl false))), ([(.tup 1 [(.nat 1), (.nat 0), (.nat 0), (.nat 2)]), (.nat 1)], .p (.oth (.bl false))), ([(.tup 1 [(.nat 1), (.nat 0), (.nat 0), (.nat 2)]), (.nat 2)], .p (.oth (.bl false))), ([(.tup 1 [(.nat 1), (.nat 0), (.nat 0), (.nat 2)]), (.nat 3)], .p (.oth (.bl false))), ([(.tup 1 [(.nat 1), (.nat 0), (.nat 1), (.nat 2)]), (.nat 1)], .p (.oth (.bl false))), ([(.tup 1 [(.nat 1), (.nat 0), (.nat 1), (.nat 2)]), (.nat 2)], .p (.oth (.bl false))), ([(.tup 1 [(.nat 1), (.nat 0), (.nat 1), (.nat 2)]), (.nat 3)], .p (.oth (.bl false))), ([(.tup 1 [(.nat 1), (.nat 1), (.nat 0), (.nat 2)]), (.nat 1)], .p (.oth (.bl false))), ([(.tup 1 [(.nat 1), (.nat 1), (.nat 0), (.nat 2)]), (.nat 2)], .p (.oth (.bl false))), ([(.tup 1 [(.nat 1), (.nat 1), (.nat 0), (.nat 2)]), (.nat 3)], .p (.oth (.bl false))), ([(.tup 1 [(.nat 1), (.nat 1), (.nat 1), (.nat 2)]), (.nat 1)], .p (.oth (.bl false))), ([(.tup 1 [(.nat 1), (.nat 1), (.nat 1), (.nat 2)]), (.nat 2)], .p (.oth (.bl false))), ([(.tup 1 [(.nat 1), (.nat 1), (.nat 1), (.nat 2)]), (.nat 3)], .p (.oth (.bl false))), ([(.tup 1 [(.nat 1), (.nat 0), (.nat 0), (.nat 0), (.nat 2)]), (.nat 1)], .p (.oth (.bl false))), ([(.tup 1 [(.nat 1), (.nat 0), (.nat 0), (.nat 0), (.nat 2)]), (.nat 2)], .p (.oth (.bl false))), ([(.tup 1 [(.nat 1), (.nat 0), (.nat 0), (.nat 0), (.nat 2)]), (.nat 3)], .p (.oth (.bl false))), ([(.tup 1 [(.nat 1), (.nat 0), (.nat 0), (.nat 0), (.nat 2)]), (.nat 4)], .p (.oth (.bl false))), ([(.tup 1 [(.nat 1), (.nat 0), (.nat 0), (.nat 1), (.nat 2)]), (.nat 1)], .p (.oth (.bl false))), ([(.tup 1 [(.nat 1), (.nat 0), (.nat 0), (.nat 1), (.nat 2)]), (.nat 2)], .p (.oth (.bl false))), ([(.tup 1 [(.nat 1), (.nat 0), (.nat 0), (.nat 1), (.nat 2)]), (.nat 3)], .p (.oth (.bl false))), ([(.tup 1 [(.nat 1), (.nat 0), (.nat 0), (.nat 1), (.nat 2)]), (.nat 4)], .p (.oth (.bl false))), ([(.tup 1 [(.nat 1), (.nat 0), (.nat 1), (.nat 0), (.nat 2)]), (.nat 1)], .p (.oth (.bl false))), ([(.tup 1 [(.nat 1), (.nat 0), (.nat 1), (.nat 0), (.nat 2)]), (.nat 2)], .p (.oth (.bl false))), ([(.tup 1 [(.nat 1), (.nat 0), (.nat 1), (.nat 0), (.nat 2)]), (.nat 3)], .p (.oth (.bl false))), ([(.tup 1 [(.nat 1), (.nat 0), (.nat 1), (.nat 0), (.nat 2)]), (.nat 4)], .p (.oth (.bl false))), ([(.tup 1 [(.nat 1), (.nat 0), (.nat 1), (.nat 1), (.nat 2)]), (.nat 1)], .p (.oth (.bl false))), ([(.tup 1 [(.nat 1), (.nat 0), (.nat 1), (.nat 1), (.nat 2)]), (.nat 2)], .p (.oth (.bl false))), ([(.tup 1 [(.nat 1), (.nat 0), (.nat 1), (.nat 1), (.nat 2)]), (.nat 3)], .p (.oth (.bl false))), ([(.tup 1 [(.nat 1), (.nat 0), (.nat 1), (.nat 1), (.nat 2)]), (.nat 4)], .p (.oth (.bl false))), ([(.tup 1 [(.nat 1), (.nat 1), (.nat 0), (.nat 0), (.nat 2)]), (.nat 1)], .p (.oth (.bl false))), ([(.tup 1 [(.nat 1), (.nat 1), (.nat 0), (.nat 0), (.nat 2)]), (.nat 2)], .p (.oth (.bl false))), ([(.tup 1 [(.nat 1), (.nat 1), (.nat 0), (.nat 0), (.nat 2)]), (.nat 3)], .p (.oth (.bl false))), ([(.tup 1 [(.nat 1), (.nat 1), (.nat 0), (.nat 0), (.nat 2)]), (.nat 4)], .p (.oth (.bl false))), ([(.tup 1 [(.nat 1), (.nat 1), (.nat 0), (.nat 1), (.nat 2)]), (.nat 1)], .p (.oth (.bl false))), ([(.tup 1 [(.nat 1), (.nat 1), (.nat 0), (.nat 1), (.nat 2)]), (.nat 2)], .p (.oth (.bl false))), ([(.tup 1 [(.nat 1), (.nat 1), (.nat 0), (.nat 1), (.nat 2)]), (.nat 3)], .p (.oth (.bl false))), ([(.tup 1 [(.nat 1), (.nat 1), (.nat 0), (.nat 1), (.nat 2)]), (.nat 4)], .p (.oth (.bl false))), ([(.tup 1 [(.nat 1), (.nat 1), (.nat 1), (.nat 0), (.nat 2)]), (.nat 1)], .p (.oth (.bl false))), ([(.tup 1 [(.nat 1), (.nat 1), (.nat 1), (.nat 0), (.nat 2)]), (.nat 2)], .p (.oth (.bl false))), ([(.tup 1 [(.nat 1), (.nat 1), (.nat 1), (.nat 0), (.nat 2)]), (.nat 3)], .p (.oth (.bl false))), ([(.tup 1 [(.nat 1), (.nat 1), (.nat 1), (.nat 0), (.nat 2)]), (.nat 4)], .p (.oth (.bl false))), ([(.tup 1 [(.nat 1), (.nat 1), (.nat 1), (.nat 1), (.nat 2)]), (.nat 1)], .p (.oth (.bl false))), ([(.tup 1 [(.nat 1), (.nat 1), (.nat 1), (.nat 1), (.nat 2)]), (.nat 2)], .p (.oth (.bl false))), ([(.tup 1 [(.nat 1), (.nat 1), (.nat 1), (.nat 1), (.nat 2)]), (.nat 3)], .p (.oth (.bl false))), ([(.tup 1 [(.nat 1), (.nat 1), (.nat 1), (.nat 1), (.nat 2)]), (.nat 4)], .p (.oth (.bl false)))]
def t_is_evil_in : Tb := t_is_evil_in_0
def f_is_evil_in : MF := memF t_is_evil_in f0_is_evil_in
theorem u_is_evil_in_0 : tOk f0_is_evil_in t_is_evil_in_0 = true := by decide +kernel
theorem u_is_evil_in : TbOk f0_is_evil_in t_is_evil_in := tOk_true u_is_evil_in_0
theorem ok_is_evil_in (Z : Fx K mg) (D0 : Dx K mg "is_evil_in" 46) (C_rest_of : Cl P w K mg base 1 "rest_of" 2 f_rest_of) (C_jumps_by : Cl P w K mg base 3 "jumps_by" 2 f_jumps_by) (C_jump_by : Cl P w K mg base 2 "jump_by" 2 f_jump_by) (C_address_by : Cl P w K mg base 4 "address_by" 1 f_address_by) (C_divides_well : Cl P w K mg base 3 "divides_well" 2 f_divides_well) : Cl P w K mg base 5 "is_evil_in" 2 f_is_evil_in := by
  refine cl_mem ?_ u_is_evil_in
  obtain ⟨f, fd, F, hm⟩ := D0.ex
  refine ⟨f, fd, ["row", "number"], fn_ok F S_is_evil_in rfl rfl fun cdv A outer s H E hr => ?_, hm, F.kp, F.bindsN fun _ _ _ _ _ _ us hl => match us, hl with | [_, _], _ => rfl⟩
  have hu := hu_of hr
  exact (SC (sI (wT (wO (qIn hu (vL 1) (kL C_address_by hr (aC (vL 0) a0) (by decide))) (wO1 (qNot (qE (kL C_divides_well hr (aC (vL 0) (aC (vL 1) a0)) (by decide))))))) (SC (sR ok_bl) S0) S0) (SC (sV 2 S_is_evil_in.nd (kL C_jump_by hr (aC (vL 0) (aC (vL 1) a0)) (by decide))) (SC (sR (ok_eAnd (ok_notN_e (vL 2)) (pe_one (eIn hu (vL 1) (kL C_jumps_by hr (aC (vL 0) (aC (kL C_rest_of hr (aC (vL 2) (aC (vL 1) a0)) (by decide)) a0)) (by decide)))))) S0)))
theorem S_evils_in : FnScope ["row", "number"] ["row"] (defScope (top 47)) := ⟨rfl, rfl, rfl, by decide +kernel, rfl, by decide +kernel, by decide +kernel⟩
def c_evils_in : MS := (sSeq (sRet (eLc (iRg2 (eCst (.nat 1)) (o1 lenD (eVar 0))) (gNm 1) (bd1 (tE (eCall f_is_evil_in (aCons (eVar 0) (aCons (eVar 1) aNil)))) (eVar 1)) [1])) sNil)
def f0_evils_in : MF := mkF (unks 1) c_evils_in
def t_evils_in_0 : Tb := [([(.tup 1 [(.nat 1), (.nat 2)])], .l []), ([(.tup 1 [(.nat 1), (.nat 0), (.nat 2)])], .l []), ([(.tup 1 [(.nat 1), (.nat 1), (.nat 2)])], .l []), ([(.tup 1 [(.nat 1), (.nat 0), (.nat 0), (.nat 2)])], .l []), ([(.tup 1 [(.nat 1), (.nat 0), (.nat 1), (.nat 2)])], .l []), ([(.tup 1 [(.nat 1), (.nat 1), (.nat 0), (.nat 2)])], .l []), ([(.tup 1 [(.nat 1), (.nat 1), (.nat 1), (.nat 2)])], .l []), ([(.tup 1 [(.nat 1), (.nat 0), (.nat 0), (.nat 0), (.nat 2)])], .l []), ([(.tup 1 [(.nat 1), (.nat 0), (.nat 0), (.nat 1), (.nat 2)])], .l []), ([(.tup 1 [(.nat 1), (.nat 0), (.nat 1), (.nat 0), (.nat 2)])], .l []), ([(.tup 1 [(.nat 1), (.nat 0), (.nat 1), (.nat 1), (.nat 2)])], .l []), ([(.tup 1 [(.nat 1), (.nat 1), (.nat 0), (.nat 0), (.nat 2)])], .l []), ([(.tup 1 [(.nat 1), (.nat 1), (.nat 0), (.nat 1), (.nat 2)])], .l []), ([(.tup 1 [(.nat 1), (.nat 1), (.nat 1), (.nat 0), (.nat 2)])], .l []), ([(.tup 1 [(.nat 1), (.nat 1), (.nat 1), (.nat 1), (.nat 2)])], .l [])]
def t_evils_in : Tb := t_evils_in_0
def f_evils_in : MF := memF t_evils_in f0_evils_in
theorem u_evils_in_0 : tOk f0_evils_in t_evils_in_0 = true := by decide +kernel
theorem u_evils_in : TbOk f0_evils_in t_evils_in := tOk_true u_evils_in_0
theorem ok_evils_in (Z : Fx K mg) (D0 : Dx K mg "evils_in" 47) (C_is_evil_in : Cl P w K mg base 5 "is_evil_in" 2 f_is_evil_in) : Cl P w K mg base 6 "evils_in" 1 f_evils_in := by
  refine cl_mem ?_ u_evils_in
  obtain ⟨f, fd, F, hm⟩ := D0.ex
  refine ⟨f, fd, ["row"], fn_ok F S_evils_in rfl rfl fun cdv A outer s H E hr => ?_, hm, F.kp, F.bindsN fun _ _ _ _ _ _ us hl => match us, hl with | [_], _ => rfl⟩
  have hu := hu_of hr
  exact (SC (sR (lc1 [("number", 1)] S_evils_in.nd (iR2 Z.b_range cN (b1 call_len_seq len_ok boot_len Z.b_len (vC 0))) (fun _ _ _ _ _ => (gL 1 S_evils_in.nd)) (fun _ _ _ _ _ => (qE (kL C_is_evil_in hr (aC (vC 0) (aC (vL 1) a0)) (by decide)))) (fun _ _ _ _ _ => (vL 1)))) S0)
theorem S_is_middle_row_in : FnScope ["row", "own"] ["row"] (defScope (top 49)) := ⟨rfl, rfl, rfl, by decide +kernel, rfl, by decide +kernel, by decide +kernel⟩
def c_is_middle_row_in : MS := (sSeq (sRet (eAnd (eT (t2 gtD (o1 lenD (eVar 0)) (eCst (.nat 1)))) (eAnd (eT (t2 eqH (eCall f_evils_in (aCons (eVar 0) aNil)) (eLst aNil))) (o1 allD (eLc (iSeq (eCall f_bottoms_by (aCons (eVar 0) aNil))) (gNm 1) (bd0 (eT (t2 eqH (eVar 1) (eCst (.nat 2))))) [1]))))) sNil)
def f0_is_middle_row_in : MF := mkF (unks 1) c_is_middle_row_in
def t_is_middle_row_in_0 : Tb := [([(.tup 1 [(.nat 1), (.nat 2)])], .p (.oth (.bl true))), ([(.tup 1 [(.nat 1), (.nat 0), (.nat 2)])], .p (.oth (.bl true))), ([(.tup 1 [(.nat 1), (.nat 1), (.nat 2)])], .p (.oth (.bl false))), ([(.tup 1 [(.nat 1), (.nat 0), (.nat 0), (.nat 2)])], .p (.oth (.bl true))), ([(.tup 1 [(.nat 1), (.nat 0), (.nat 1), (.nat 2)])], .p (.oth (.bl true))), ([(.tup 1 [(.nat 1), (.nat 1), (.nat 0), (.nat 2)])], .p (.oth (.bl false))), ([(.tup 1 [(.nat 1), (.nat 1), (.nat 1), (.nat 2)])], .p (.oth (.bl false))), ([(.tup 1 [(.nat 1), (.nat 0), (.nat 0), (.nat 0), (.nat 2)])], .p (.oth (.bl true))), ([(.tup 1 [(.nat 1), (.nat 0), (.nat 0), (.nat 1), (.nat 2)])], .p (.oth (.bl true))), ([(.tup 1 [(.nat 1), (.nat 0), (.nat 1), (.nat 0), (.nat 2)])], .p (.oth (.bl false))), ([(.tup 1 [(.nat 1), (.nat 0), (.nat 1), (.nat 1), (.nat 2)])], .p (.oth (.bl true))), ([(.tup 1 [(.nat 1), (.nat 1), (.nat 0), (.nat 0), (.nat 2)])], .p (.oth (.bl false))), ([(.tup 1 [(.nat 1), (.nat 1), (.nat 0), (.nat 1), (.nat 2)])], .p (.oth (.bl false))), ([(.tup 1 [(.nat 1), (.nat 1), (.nat 1), (.nat 0), (.nat 2)])], .p (.oth (.bl false))), ([(.tup 1 [(.nat 1), (.nat 1), (.nat 1), (.nat 1), (.nat 2)])], .p (.oth (.bl false)))]
def t_is_middle_row_in : Tb := t_is_middle_row_in_0
def f_is_middle_row_in : MF := memF t_is_middle_row_in f0_is_middle_row_in
theorem u_is_middle_row_in_0 : tOk f0_is_middle_row_in t_is_middle_row_in_0 = true := by decide +kernel
theorem u_is_middle_row_in : TbOk f0_is_middle_row_in t_is_middle_row_in := tOk_true u_is_middle_row_in_0
theorem ok_is_middle_row_in (Z : Fx K mg) (D0 : Dx K mg "is_middle_row_in" 49) (C_evils_in : Cl P w K mg base 6 "evils_in" 1 f_evils_in) (C_bottoms_by : Cl P w K mg base 5 "bottoms_by" 1 f_bottoms_by) : Cl P w K mg base 7 "is_middle_row_in" 1 f_is_middle_row_in := by
  refine cl_mem ?_ u_is_middle_row_in
  obtain ⟨f, fd, F, hm⟩ := D0.ex
  refine ⟨f, fd, ["row"], fn_ok F S_is_middle_row_in rfl rfl fun cdv A outer s H E hr => ?_, hm, F.kp, F.bindsN fun _ _ _ _ _ _ us hl => match us, hl with | [_], _ => rfl⟩
  have hu := hu_of hr
  exact (SC (sR (ok_eAnd (eGt (b1 call_len_seq len_ok boot_len Z.b_len (vL 0)) cN) (ok_eAnd (eEq hu (kL C_evils_in hr (aC (vL 0) a0) (by decide)) (lS a0)) (pe_one (b1 (cr_all rfl) all_ok boot_all Z.b_all (lc0 [("own", 1)] S_is_middle_row_in.nd (iQ (kL C_bottoms_by hr (aC (vL 0) a0) (by decide))) (fun _ _ _ _ _ => (gL 1 S_is_middle_row_in.nd)) (fun _ _ _ _ _ => (eEq hu (vL 1) cN)))))))) S0)
theorem S_inner_row : FnScope ["row", "far", "side"] ["row"] (defScope (top 51)) := ⟨rfl, rfl, rfl, by decide +kernel, rfl, by decide +kernel, by decide +kernel⟩
def c_inner_row : MS := (sSeq (sSet 1 (o1 lenD (eLc (iSeq (eVar 0)) (gNm 2) (bd1 (t2 eqH (eVar 2) (eCst (.nat 1))) (eVar 2)) [2]))) (sSeq (sRet (o2 addD (eSl (eVar 0) oNone (oSome (o1 negD (eCst (.nat 1))))) (eTup (aCons (eIf (t2 eqH (o2 modD (eVar 1) (eCst (.nat 2))) (eCst (.nat 1))) (eCst (.nat 1)) (eCst (.nat 0))) aNil)))) sNil))
def f_inner_row : MF := mkF (unks 2) c_inner_row
theorem ok_inner_row (Z : Fx K mg) (D0 : Dx K mg "inner_row" 51)  : Cl P w K mg base 1 "inner_row" 1 f_inner_row := by
  obtain ⟨f, fd, F, hm⟩ := D0.ex
  refine ⟨f, fd, ["row"], fn_ok F S_inner_row rfl rfl fun cdv A outer s H E hr => ?_, hm, F.kp, F.bindsN fun _ _ _ _ _ _ us hl => match us, hl with | [_], _ => rfl⟩
  have hu := hu_of hr
  exact (SC (sV 1 S_inner_row.nd (b1 call_len_seq len_ok boot_len Z.b_len (lc1 [("side", 2)] S_inner_row.nd (iQ (vL 0)) (fun _ _ _ _ _ => (gL 2 S_inner_row.nd)) (fun _ _ _ _ _ => (qEq hu (vL 2) (gI Z.i_FAR))) (fun _ _ _ _ _ => (vL 2))))) (SC (sR (bAdd (sl (vL 0) s0 (s1 (uNeg cN))) (tU (aC (ok_if (qEq hu (bMod (vL 1) cN) cN) (gI Z.i_FAR) (gI Z.i_NEAR)) a0)))) S0))
theorem S_digits_by : FnScope ["row", "found", "bit", "side"] ["row"] (defScope (top 50)) := ⟨rfl, rfl, rfl, by decide +kernel, rfl, by decide +kernel, by decide +kernel⟩
def c_digits_by : MS := (sSeq (sPar2 1 2 (aCons (eLst aNil) (aCons (eCst (.nat 0)) aNil))) (sSeq (sFor (iSeq (eCall f_inner_row (aCons (eVar 0) aNil))) (gNm 3) (sSeq (sExp (eMt apD (eVar 1) (aCons (eVar 2) aNil))) (sSeq (sSet 2 (eIf (t2 eqH (eVar 3) (eCst (.nat 1))) (o2 subD (eCst (.nat 1)) (eVar 2)) (eVar 2))) sNil))) (sSeq (sRet (eVar 1)) sNil)))
def f_digits_by : MF := mkF (unks 3) c_digits_by
theorem ok_digits_by (Z : Fx K mg) (D0 : Dx K mg "digits_by" 50) (C_inner_row : Cl P w K mg base 1 "inner_row" 1 f_inner_row) : Cl P w K mg base 2 "digits_by" 1 f_digits_by := by
  obtain ⟨f, fd, F, hm⟩ := D0.ex
  refine ⟨f, fd, ["row"], fn_ok F S_digits_by rfl rfl fun cdv A outer s H E hr => ?_, hm, F.kp, F.bindsN fun _ _ _ _ _ _ us hl => match us, hl with | [_], _ => rfl⟩
  have hu := hu_of hr
  exact (SC (sP2 1 2 S_digits_by.nd (aC (lS a0) (aC cN a0))) (SC (sF PassesOwn.never (iQ (kL C_inner_row hr (aC (vL 0) a0) (by decide))) (gL 3 S_digits_by.nd) (SC (sEx (mT mt_append ap_ok PySem.F.slot_list_append PySem.F.type_list_append (vL 1) (aC (vL 2) a0))) (SC (sV 2 S_digits_by.nd (ok_if (qEq hu (vL 3) (gI Z.i_FAR)) (bSub cN (vL 2)) (vL 2))) S0))) (SC (sR (vL 1)) S0)))
theorem S_lower_by : FnScope ["row"] ["row"] (defScope (top 52)) := ⟨rfl, rfl, rfl, by decide +kernel, rfl, by decide +kernel, by decide +kernel⟩
def c_lower_by : MS := (sSeq (sRet (eCall f_place_by (aCons (eTup aNil) (aCons (o1 tupleD (eCall f_digits_by (aCons (eVar 0) aNil))) aNil)))) sNil)
def f_lower_by : MF := mkF (unks 0) c_lower_by
theorem ok_lower_by (Z : Fx K mg) (D0 : Dx K mg "lower_by" 52) (C_digits_by : Cl P w K mg base 2 "digits_by" 1 f_digits_by) (C_place_by : Cl P w K mg base 2 "place_by" 2 f_place_by) : Cl P w K mg base 3 "lower_by" 1 f_lower_by := by
  obtain ⟨f, fd, F, hm⟩ := D0.ex
  refine ⟨f, fd, ["row"], fn_ok F S_lower_by rfl rfl fun cdv A outer s H E hr => ?_, hm, F.kp, F.bindsN fun _ _ _ _ _ _ us hl => match us, hl with | [_], _ => rfl⟩
  have hu := hu_of hr
  exact (SC (sR (kL C_place_by hr (aC (tU a0) (aC (t1 call_tuple_of tuple_ok boot_tuple Z.b_tuple (kL C_digits_by hr (aC (vL 0) a0) (by decide))) a0)) (by decide))) S0)
theorem S_count_middle : FnScope ["many", "found", "own"] ["many"] (defScope (top 53)) := ⟨rfl, rfl, rfl, by decide +kernel, rfl, by decide +kernel, by decide +kernel⟩
def c_count_middle : MS := (sSeq (sSet 1 (eCst (.nat 0))) (sSeq (sFor (iSeq (eCall f_divisors_of (aCons (eVar 0) aNil))) (gNm 2) (sSeq (sIf (t2 eqH (o2 modD (eVar 2) (eCst (.nat 2))) (eCst (.nat 1))) (sSeq (sSet 1 (o2 addD (eVar 1) (o2 mulD (eCall f_sign_of_parts (aCons (eVar 2) aNil)) (eCall f_two_to (aCons (o2 divD (eVar 0) (eVar 2)) aNil))))) sNil) sNil) sNil)) (sSeq (sRet (o2 divD (eVar 1) (o2 mulD (eCst (.nat 2)) (eVar 0)))) sNil)))
def f_count_middle : MF := mkF (unks 2) c_count_middle
theorem ok_count_middle (Z : Fx K mg) (D0 : Dx K mg "count_middle" 53) (C_divisors_of : Cl P w K mg base 1 "divisors_of" 1 f_divisors_of) (C_sign_of_parts : Cl P w K mg base 2 "sign_of_parts" 1 f_sign_of_parts) (C_two_to : Cl P w K mg base 1 "two_to" 1 f_two_to) : Cl P w K mg base 3 "count_middle" 1 f_count_middle := by
  obtain ⟨f, fd, F, hm⟩ := D0.ex
  refine ⟨f, fd, ["many"], fn_ok F S_count_middle rfl rfl fun cdv A outer s H E hr => ?_, hm, F.kp, F.bindsN fun _ _ _ _ _ _ us hl => match us, hl with | [_], _ => rfl⟩
  have hu := hu_of hr
  exact (SC (sV 1 S_count_middle.nd cN) (SC (sF PassesOwn.never (iQ (kL C_divisors_of hr (aC (vL 0) a0) (by decide))) (gL 2 S_count_middle.nd) (SC (sI (qEq hu (bMod (vL 2) cN) cN) (SC (sV 1 S_count_middle.nd (bAdd (vL 1) (bMul (kL C_sign_of_parts hr (aC (vL 2) a0) (by decide)) (kL C_two_to hr (aC (bDiv (vL 0) (vL 2)) a0) (by decide))))) S0) S0) S0)) (SC (sR (bDiv (vL 1) (bMul cN (vL 0)))) S0)))
theorem S_ahead_in_line : FnScope ["one", "other", "first", "second"] ["one", "other"] (defScope (top 54)) := ⟨rfl, rfl, rfl, by decide +kernel, rfl, by decide +kernel, by decide +kernel⟩
def c_ahead_in_line : MS := (sSeq (sPar2 2 3 (aCons (eCall f_lower_by (aCons (eVar 0) aNil)) (aCons (eCall f_lower_by (aCons (eVar 1) aNil)) aNil))) (sSeq (sIf (t2 eqH (eVar 2) (eVar 3)) (sSeq (sRet (eCst (.nat 0))) sNil) sNil) (sSeq (sRet (eIf (tE (eCall f_is_less (aCons (eVar 2) (aCons (eVar 3) aNil)))) (o1 negD (eCst (.nat 1))) (eCst (.nat 1)))) sNil)))
def f0_ahead_in_line : MF := mkF (unks 2) c_ahead_in_line
def t_ahead_in_line_0 : Tb := [([(.tup 1 [(.nat 1), (.nat 0), (.nat 0), (.nat 2)]), (.tup 1 [(.nat 1), (.nat 0), (.nat 1), (.nat 2)])], .p (.nat 1)), ([(.tup 1 [(.nat 1), (.nat 0), (.nat 1), (.nat 2)]), (.tup 1 [(.nat 1), (.nat 0), (.nat 0), (.nat 2)])], .p (.neg 0)), ([(.tup 1 [(.nat 1), (.nat 0), (.nat 0), (.nat 1), (.nat 2)]), (.tup 1 [(.nat 1), (.nat 0), (.nat 1), (.nat 1), (.nat 2)])], .p (.nat 1)), ([(.tup 1 [(.nat 1), (.nat 0), (.nat 1), (.nat 1), (.nat 2)]), (.tup 1 [(.nat 1), (.nat 0), (.nat 0), (.nat 1), (.nat 2)])], .p (.neg 0)), ([(.tup 1 [(.nat 1), (.nat 0), (.nat 0), (.nat 0), (.nat 2)]), (.tup 1 [(.nat 1), (.nat 0), (.nat 0), (.nat 1), (.nat 2)])], .p (.nat 1)), ([(.tup 1 [(.nat 1), (.nat 0), (.nat 0), (.nat 1), (.nat 2)]), (.tup 1 [(.nat 1), (.nat 0), (.nat 0), (.nat 0), (.nat 2)])], .p (.neg 0))]
def t_ahead_in_line : Tb := t_ahead_in_line_0
def f_ahead_in_line : MF := memF t_ahead_in_line f0_ahead_in_line
theorem u_ahead_in_line_0 : tOk f0_ahead_in_line t_ahead_in_line_0 = true := by decide +kernel
theorem u_ahead_in_line : TbOk f0_ahead_in_line t_ahead_in_line := tOk_true u_ahead_in_line_0
theorem ok_ahead_in_line (Z : Fx K mg) (D0 : Dx K mg "ahead_in_line" 54) (C_is_less : Cl P w K mg base 1 "is_less" 2 f_is_less) (C_lower_by : Cl P w K mg base 3 "lower_by" 1 f_lower_by) : Cl P w K mg base 4 "ahead_in_line" 2 f_ahead_in_line := by
  refine cl_mem ?_ u_ahead_in_line
  obtain ⟨f, fd, F, hm⟩ := D0.ex
  refine ⟨f, fd, ["one", "other"], fn_ok F S_ahead_in_line rfl rfl fun cdv A outer s H E hr => ?_, hm, F.kp, F.bindsN fun _ _ _ _ _ _ us hl => match us, hl with | [_, _], _ => rfl⟩
  have hu := hu_of hr
  exact (SC (sP2 2 3 S_ahead_in_line.nd (aC (kL C_lower_by hr (aC (vL 0) a0) (by decide)) (aC (kL C_lower_by hr (aC (vL 1) a0) (by decide)) a0))) (SC (sI (qEq hu (vL 2) (vL 3)) (SC (sR cN) S0) S0) (SC (sR (ok_if (qE (kL C_is_less hr (aC (vL 2) (aC (vL 3) a0)) (by decide))) (uNeg cN) cN)) S0)))
theorem S_middle_rows : FnScope ["many", "found", "table", "row", "low"] ["many"] (defScope (top 55)) := ⟨rfl, rfl, rfl, by decide +kernel, rfl, by decide +kernel, by decide +kernel⟩
def c_middle_rows : MS := (sSeq (sIf (tNot (tE (eCall f_is_within (aCons (eVar 0) (aCons (eCst (.nat 2)) (aCons (eCst (.nat 60)) aNil)))))) (sSeq sNever sNil) sNil) (sSeq (sIf (t2 gtD (eVar 0) (eCst (.nat 11))) (sSeq sNever sNil) sNil) (sSeq (sSet 1 (eLc (iSeq (eCall f_all_round_rows (aCons (eVar 0) aNil))) (gNm 3) (bd1 (tE (eCall f_is_middle_row_in (aCons (eVar 3) aNil))) (eVar 3)) [3])) (sSeq (sSet 2 (o1 dictD (eLc (iSeq (eVar 1)) (gNm 3) (bd0 (eTup (aCons (eCall f_lower_by (aCons (eVar 3) aNil)) (aCons (eVar 3) aNil)))) [3]))) (sSeq (sRet (eLc (iSeq (eCall f_by_worth (aCons (eLc (iSeq (eVar 1)) (gNm 3) (bd0 (eCall f_lower_by (aCons (eVar 3) aNil))) [3]) aNil))) (gNm 4) (bd0 (o2 ixG (eVar 2) (eVar 4))) [4])) sNil)))))
def f0_middle_rows : MF := mkF (unks 4) c_middle_rows
def t_middle_rows_0 : Tb := [([(.nat 2)], .l [(.tup 1 [(.nat 1), (.nat 2)])]), ([(.nat 3)], .l [(.tup 1 [(.nat 1), (.nat 0), (.nat 2)])]), ([(.nat 4)], .l [(.tup 1 [(.nat 1), (.nat 0), (.nat 1), (.nat 2)]), (.tup 1 [(.nat 1), (.nat 0), (.nat 0), (.nat 2)])]), ([(.nat 5)], .l [(.tup 1 [(.nat 1), (.nat 0), (.nat 1), (.nat 1), (.nat 2)]), (.tup 1 [(.nat 1), (.nat 0), (.nat 0), (.nat 1), (.nat 2)]), (.tup 1 [(.nat 1), (.nat 0), (.nat 0), (.nat 0), (.nat 2)])])]
def t_middle_rows : Tb := t_middle_rows_0
def f_middle_rows : MF := memF t_middle_rows f0_middle_rows
theorem u_middle_rows_0 : tOk f0_middle_rows t_middle_rows_0 = true := by decide +kernel
theorem u_middle_rows : TbOk f0_middle_rows t_middle_rows := tOk_true u_middle_rows_0
theorem ok_middle_rows (Z : Fx K mg) (D0 : Dx K mg "middle_rows" 55) (C_lower_by : Cl P w K mg base 3 "lower_by" 1 f_lower_by) (C_by_worth : Cl P w K mg base 1 "by_worth" 1 f_by_worth) (C_all_round_rows : Cl P w K mg base 1 "all_round_rows" 1 f_all_round_rows) (C_is_middle_row_in : Cl P w K mg base 7 "is_middle_row_in" 1 f_is_middle_row_in) (C_is_within : Cl P w K mg base 2 "is_within" 3 f_is_within) : Cl P w K mg base 8 "middle_rows" 1 f_middle_rows := by
  refine cl_mem ?_ u_middle_rows
  obtain ⟨f, fd, F, hm⟩ := D0.ex
  refine ⟨f, fd, ["many"], fn_ok F S_middle_rows rfl rfl fun cdv A outer s H E hr => ?_, hm, F.kp, F.bindsN fun _ _ _ _ _ _ us hl => match us, hl with | [_], _ => rfl⟩
  have hu := hu_of hr
  exact (SC (sI (qNot (qE (kL C_is_within hr (aC (vL 0) (aC cN (aC (gI Z.i_LONGEST_places) a0))) (by decide)))) (SC SX S0) S0) (SC (sI (qGt (vL 0) (gI Z.i_LISTED)) (SC SX S0) S0) (SC (sc1 1 [("row", 3)] S_middle_rows.nd (iQ (kL C_all_round_rows hr (aC (vL 0) a0) (by decide))) (fun _ _ _ _ _ => (gL 3 S_middle_rows.nd)) (fun _ _ _ _ _ => (qE (kL C_is_middle_row_in hr (aC (vL 3) a0) (by decide)))) (fun _ _ _ _ _ => (vL 3))) (SC (sW 2 S_middle_rows.nd (t1 (call_dictT rfl hu) dictD_ok boot_dict Z.b_dict (lc0 [("row", 3)] S_middle_rows.nd (iQ (vL 1)) (fun _ _ _ _ _ => (gL 3 S_middle_rows.nd)) (fun _ _ _ _ _ => (tU (aC (kL C_lower_by hr (aC (vL 3) a0) (by decide)) (aC (vL 3) a0))))))) (SC (sR (lc0 [("low", 4)] S_middle_rows.nd (iQ (kL C_by_worth hr (aC (lc0 [("row", 3)] S_middle_rows.nd (iQ (vL 1)) (fun _ _ _ _ _ => (gL 3 S_middle_rows.nd)) (fun _ _ _ _ _ => (kL C_lower_by hr (aC (vL 3) a0) (by decide)))) a0) (by decide))) (fun _ _ _ _ _ => (gL 4 S_middle_rows.nd)) (fun _ _ _ _ _ => (ix hu (vC 2) (vL 4))))) S0)))))
theorem S_middle_leaves : FnScope ["many", "found", "row", "low"] ["many"] (defScope (top 56)) := ⟨rfl, rfl, rfl, by decide +kernel, rfl, by decide +kernel, by decide +kernel⟩
def c_middle_leaves : MS := (sSeq (sSet 1 (eLc (iSeq (eCall f_middle_rows (aCons (eVar 0) aNil))) (gNm 2) (bd0 (eCall f_lower_by (aCons (eVar 2) aNil))) [2])) (sSeq (sRet (eLc (iSeq (eVar 1)) (gNm 3) (bd0 (eTup (aCons (eVar 3) (aCons (eCall f_mirror (aCons (eVar 3) aNil)) aNil)))) [3])) sNil))
def f0_middle_leaves : MF := mkF (unks 3) c_middle_leaves
def t_middle_leaves_0 : Tb := [([(.nat 2)], .l [(.tup 2 [(.tup 1 [(.nat 1), (.nat 3)]), (.tup 1 [(.nat 2), (.nat 3)])])]), ([(.nat 3)], .l [(.tup 2 [(.tup 1 [(.nat 3), (.nat 7)]), (.tup 1 [(.nat 4), (.nat 7)])])]), ([(.nat 4)], .l [(.tup 2 [(.tup 1 [(.nat 2), (.nat 5)]), (.tup 1 [(.nat 3), (.nat 5)])]), (.tup 2 [(.tup 1 [(.nat 7), (.nat 15)]), (.tup 1 [(.nat 8), (.nat 15)])])]), ([(.nat 5)], .l [(.tup 2 [(.tup 1 [(.nat 13), (.nat 31)]), (.tup 1 [(.nat 18), (.nat 31)])]), (.tup 2 [(.tup 1 [(.nat 14), (.nat 31)]), (.tup 1 [(.nat 17), (.nat 31)])]), (.tup 2 [(.tup 1 [(.nat 15), (.nat 31)]), (.tup 1 [(.nat 16), (.nat 31)])])])]
def t_middle_leaves : Tb := t_middle_leaves_0
def f_middle_leaves : MF := memF t_middle_leaves f0_middle_leaves
theorem u_middle_leaves_0 : tOk f0_middle_leaves t_middle_leaves_0 = true := by decide +kernel
theorem u_middle_leaves : TbOk f0_middle_leaves t_middle_leaves := tOk_true u_middle_leaves_0
theorem ok_middle_leaves (Z : Fx K mg) (D0 : Dx K mg "middle_leaves" 56) (C_mirror : Cl P w K mg base 2 "mirror" 1 f_mirror) (C_middle_rows : Cl P w K mg base 8 "middle_rows" 1 f_middle_rows) (C_lower_by : Cl P w K mg base 3 "lower_by" 1 f_lower_by) : Cl P w K mg base 9 "middle_leaves" 1 f_middle_leaves := by
  refine cl_mem ?_ u_middle_leaves
  obtain ⟨f, fd, F, hm⟩ := D0.ex
  refine ⟨f, fd, ["many"], fn_ok F S_middle_leaves rfl rfl fun cdv A outer s H E hr => ?_, hm, F.kp, F.bindsN fun _ _ _ _ _ _ us hl => match us, hl with | [_], _ => rfl⟩
  have hu := hu_of hr
  exact (SC (sc0 1 [("row", 2)] S_middle_leaves.nd (iQ (kL C_middle_rows hr (aC (vL 0) a0) (by decide))) (fun _ _ _ _ _ => (gL 2 S_middle_leaves.nd)) (fun _ _ _ _ _ => (kL C_lower_by hr (aC (vL 2) a0) (by decide)))) (SC (sR (lc0 [("low", 3)] S_middle_leaves.nd (iQ (vL 1)) (fun _ _ _ _ _ => (gL 3 S_middle_leaves.nd)) (fun _ _ _ _ _ => (tU (aC (vL 3) (aC (kL C_mirror hr (aC (vL 3) a0) (by decide)) a0)))))) S0))
theorem S_how_many_middle : FnScope ["many"] ["many"] (defScope (top 57)) := ⟨rfl, rfl, rfl, by decide +kernel, rfl, by decide +kernel, by decide +kernel⟩
def c_how_many_middle : MS := (sSeq (sIf (tNot (tE (eCall f_is_within (aCons (eVar 0) (aCons (eCst (.nat 2)) (aCons (eCst (.nat 1000)) aNil)))))) (sSeq sNever sNil) sNil) (sSeq (sRet (eCall f_count_middle (aCons (eVar 0) aNil))) sNil))
def f_how_many_middle : MF := mkF (unks 0) c_how_many_middle
theorem ok_how_many_middle (Z : Fx K mg) (D0 : Dx K mg "how_many_middle" 57) (C_count_middle : Cl P w K mg base 3 "count_middle" 1 f_count_middle) (C_is_within : Cl P w K mg base 2 "is_within" 3 f_is_within) : Cl P w K mg base 4 "how_many_middle" 1 f_how_many_middle := by
  obtain ⟨f, fd, F, hm⟩ := D0.ex
  refine ⟨f, fd, ["many"], fn_ok F S_how_many_middle rfl rfl fun cdv A outer s H E hr => ?_, hm, F.kp, F.bindsN fun _ _ _ _ _ _ us hl => match us, hl with | [_], _ => rfl⟩
  have hu := hu_of hr
  exact (SC (sI (qNot (qE (kL C_is_within hr (aC (vL 0) (aC cN (aC cN a0))) (by decide)))) (SC SX S0) S0) (SC (sR (kL C_count_middle hr (aC (vL 0) a0) (by decide))) S0))
theorem S_in_line : FnScope ["row", "other", "one", "two"] ["row", "other"] (defScope (top 58)) := ⟨rfl, rfl, rfl, by decide +kernel, rfl, by decide +kernel, by decide +kernel⟩
def c_in_line : MS := (sSeq (sPar2 2 3 (aCons (eCall f_sure_around (aCons (eVar 0) aNil)) (aCons (eCall f_sure_around (aCons (eVar 1) aNil)) aNil))) (sSeq (sIf (tOr (tNot (tE (eCall f_is_middle_row_in (aCons (eVar 2) aNil)))) (tNot (tE (eCall f_is_middle_row_in (aCons (eVar 3) aNil))))) (sSeq sNever sNil) sNil) (sSeq (sRet (eCall f_ahead_in_line (aCons (eVar 2) (aCons (eVar 3) aNil)))) sNil)))
def f0_in_line : MF := mkF (unks 2) c_in_line
def t_in_line_0 : Tb := [([(.tup 1 [(.nat 1), (.nat 0), (.nat 0), (.nat 2)]), (.tup 1 [(.nat 1), (.nat 0), (.nat 1), (.nat 2)])], .p (.nat 1)), ([(.tup 1 [(.nat 1), (.nat 0), (.nat 1), (.nat 2)]), (.tup 1 [(.nat 1), (.nat 0), (.nat 0), (.nat 2)])], .p (.neg 0)), ([(.tup 1 [(.nat 1), (.nat 0), (.nat 0), (.nat 1), (.nat 2)]), (.tup 1 [(.nat 1), (.nat 0), (.nat 1), (.nat 1), (.nat 2)])], .p (.nat 1)), ([(.tup 1 [(.nat 1), (.nat 0), (.nat 1), (.nat 1), (.nat 2)]), (.tup 1 [(.nat 1), (.nat 0), (.nat 0), (.nat 1), (.nat 2)])], .p (.neg 0)), ([(.tup 1 [(.nat 1), (.nat 0), (.nat 0), (.nat 0), (.nat 2)]), (.tup 1 [(.nat 1), (.nat 0), (.nat 0), (.nat 1), (.nat 2)])], .p (.nat 1)), ([(.tup 1 [(.nat 1), (.nat 0), (.nat 0), (.nat 1), (.nat 2)]), (.tup 1 [(.nat 1), (.nat 0), (.nat 0), (.nat 0), (.nat 2)])], .p (.neg 0))]
def t_in_line : Tb := t_in_line_0
def f_in_line : MF := memF t_in_line f0_in_line
theorem u_in_line_0 : tOk f0_in_line t_in_line_0 = true := by decide +kernel
theorem u_in_line : TbOk f0_in_line t_in_line := tOk_true u_in_line_0
theorem ok_in_line (Z : Fx K mg) (D0 : Dx K mg "in_line" 58) (C_ahead_in_line : Cl P w K mg base 4 "ahead_in_line" 2 f_ahead_in_line) (C_is_middle_row_in : Cl P w K mg base 7 "is_middle_row_in" 1 f_is_middle_row_in) (C_sure_around : Cl P w K mg base 16 "sure_around" 1 f_sure_around) : Cl P w K mg base 17 "in_line" 2 f_in_line := by
  refine cl_mem ?_ u_in_line
  obtain ⟨f, fd, F, hm⟩ := D0.ex
  refine ⟨f, fd, ["row", "other"], fn_ok F S_in_line rfl rfl fun cdv A outer s H E hr => ?_, hm, F.kp, F.bindsN fun _ _ _ _ _ _ us hl => match us, hl with | [_, _], _ => rfl⟩
  have hu := hu_of hr
  exact (SC (sP2 2 3 S_in_line.nd (aC (kL C_sure_around hr (aC (vL 0) a0) (by decide)) (aC (kL C_sure_around hr (aC (vL 1) a0) (by decide)) a0))) (SC (sI (wT (wO (qNot (qE (kL C_is_middle_row_in hr (aC (vL 2) a0) (by decide)))) (wO1 (qNot (qE (kL C_is_middle_row_in hr (aC (vL 3) a0) (by decide))))))) (SC SX S0) S0) (SC (sR (kL C_ahead_in_line hr (aC (vL 2) (aC (vL 3) a0)) (by decide))) S0)))
theorem S_trimmed : FnScope ["numbers", "found"] ["numbers"] (defScope (top 61)) := ⟨rfl, rfl, rfl, by decide +kernel, rfl, by decide +kernel, by decide +kernel⟩
def c_trimmed : MS := (sSeq (sSet 1 (o1 tupleD (eVar 0))) (sSeq (sWh 100000 (tAnd (t2 neH (eVar 1) (eTup aNil)) (t2 eqH (o2 ixG (eVar 1) (o1 negD (eCst (.nat 1)))) (eCst (.nat 0)))) (sSeq (sSet 1 (eSl (eVar 1) oNone (oSome (o1 negD (eCst (.nat 1)))))) sNil)) (sSeq (sRet (eVar 1)) sNil)))
def f_trimmed : MF := mkF (unks 1) c_trimmed
theorem ok_trimmed (Z : Fx K mg) (D0 : Dx K mg "trimmed" 61)  : Cl P w K mg base 1 "trimmed" 1 f_trimmed := by
  obtain ⟨f, fd, F, hm⟩ := D0.ex
  refine ⟨f, fd, ["numbers"], fn_ok F S_trimmed rfl rfl fun cdv A outer s H E hr => ?_, hm, F.kp, F.bindsN fun _ _ _ _ _ _ us hl => match us, hl with | [_], _ => rfl⟩
  have hu := hu_of hr
  exact (SC (sV 1 S_trimmed.nd (t1 call_tuple_of tuple_ok boot_tuple Z.b_tuple (vL 0))) (SC (sL 100000 PassesOwn.never (wT (wA (qNe hu (vL 1) (tU a0)) (wA1 (qEq hu (ix hu (vL 1) (uNeg cN)) cN)))) (SC (sV 1 S_trimmed.nd (sl (vL 1) s0 (s1 (uNeg cN)))) S0)) (SC (sR (vL 1)) S0)))
theorem S_summed : FnScope ["one", "other", "long", "near", "far", "first", "second"] ["one", "other"] (defScope (top 62)) := ⟨rfl, rfl, rfl, by decide +kernel, rfl, by decide +kernel, by decide +kernel⟩
def c_summed : MS := (sSeq (sSet 2 (o2 max2D (o1 lenD (eVar 0)) (o1 lenD (eVar 1)))) (sSeq (sPar2 3 4 (aCons (o2 addD (eVar 0) (o2 mulD (eTup (aCons (eCst (.nat 0)) aNil)) (o2 subD (eVar 2) (o1 lenD (eVar 0))))) (aCons (o2 addD (eVar 1) (o2 mulD (eTup (aCons (eCst (.nat 0)) aNil)) (o2 subD (eVar 2) (o1 lenD (eVar 1))))) aNil))) (sSeq (sRet (eCall f_trimmed (aCons (eLc (iZp (eVar 3) (eVar 4)) (gTl 2 (gsCons (gNm 5) (gsCons (gNm 6) gsNil))) (bd0 (o2 addD (eVar 5) (eVar 6))) [5, 6]) aNil))) sNil)))
def f_summed : MF := mkF (unks 5) c_summed
theorem ok_summed (Z : Fx K mg) (D0 : Dx K mg "summed" 62) (C_trimmed : Cl P w K mg base 1 "trimmed" 1 f_trimmed) : Cl P w K mg base 2 "summed" 2 f_summed := by
  obtain ⟨f, fd, F, hm⟩ := D0.ex
  refine ⟨f, fd, ["one", "other"], fn_ok F S_summed rfl rfl fun cdv A outer s H E hr => ?_, hm, F.kp, F.bindsN fun _ _ _ _ _ _ us hl => match us, hl with | [_, _], _ => rfl⟩
  have hu := hu_of hr
  exact (SC (sV 2 S_summed.nd (b2 (call_max2 rfl) max2_ok boot_max Z.b_max (b1 call_len_seq len_ok boot_len Z.b_len (vL 0)) (b1 call_len_seq len_ok boot_len Z.b_len (vL 1)))) (SC (sP2 3 4 S_summed.nd (aC (bAdd (vL 0) (bMul (tU (aC cN a0)) (bSub (vL 2) (b1 call_len_seq len_ok boot_len Z.b_len (vL 0))))) (aC (bAdd (vL 1) (bMul (tU (aC cN a0)) (bSub (vL 2) (b1 call_len_seq len_ok boot_len Z.b_len (vL 1))))) a0))) (SC (sR (kL C_trimmed hr (aC (lc0 [("first", 5), ("second", 6)] S_summed.nd (iZ Z.b_zip (vL 3) (vL 4)) (fun _ _ _ _ _ => (gT (gS (gL 5 S_summed.nd) (gS (gL 6 S_summed.nd) g0)))) (fun _ _ _ _ _ => (bAdd (vL 5) (vL 6)))) a0) (by decide))) S0)))
theorem S_multiplied : FnScope ["one", "other", "found", "k", "first", "its", "second"] ["one", "other"] (defScope (top 63)) := ⟨rfl, rfl, rfl, by decide +kernel, rfl, by decide +kernel, by decide +kernel⟩
def c_multiplied : MS := (sSeq (sSet 2 (o2 mulD (eLst (aCons (eCst (.nat 0)) aNil)) (o2 max2D (eCst (.nat 0)) (o2 subD (o2 addD (o1 lenD (eVar 0)) (o1 lenD (eVar 1))) (eCst (.nat 1)))))) (sSeq (sFor (iEnu (eVar 0)) (gTl 2 (gsCons (gNm 3) (gsCons (gNm 4) gsNil))) (sSeq (sIf (t2 neH (eVar 4) (eCst (.nat 0))) (sSeq (sFor (iEnu (eVar 1)) (gTl 2 (gsCons (gNm 5) (gsCons (gNm 6) gsNil))) (sSeq (sSubG (o2 addD (o2 ixG (eVar 2) (o2 addD (eVar 3) (eVar 5))) (o2 mulD (eVar 4) (eVar 6))) (eVar 2) (o2 addD (eVar 3) (eVar 5))) sNil)) sNil) sNil) sNil)) (sSeq (sRet (eCall f_trimmed (aCons (eVar 2) aNil))) sNil)))
def f0_multiplied : MF := mkF (unks 5) c_multiplied
def t_multiplied_0 : Tb := [([(.tup 1 [(.nat 0), (.nat 1)]), (.tup 1 [(.nat 0), (.nat 1)])], .p (.tup 1 [(.nat 0), (.nat 0), (.nat 1)])), ([(.tup 1 [(.nat 0), (.nat 1), (.nat 1)]), (.tup 1 [(.nat 0), (.nat 1), (.nat 1)])], .p (.tup 1 [(.nat 0), (.nat 0), (.nat 1), (.nat 2), (.nat 1)])), ([(.tup 1 [(.nat 0), (.nat 1), (.nat 1), (.nat 2), (.nat 1)]), (.tup 1 [(.nat 0), (.nat 1), (.nat 1), (.nat 2), (.nat 1)])], .p (.tup 1 [(.nat 0), (.nat 0), (.nat 1), (.nat 2), (.nat 5), (.nat 6), (.nat 6), (.nat 4), (.nat 1)])), ([(.tup 1 [(.nat 0), (.nat 1), (.nat 1), (.nat 2), (.nat 5), (.nat 6), (.nat 6), (.nat 4), (.nat 1)]), (.tup 1 [(.nat 0), (.nat 1), (.nat 1), (.nat 2), (.nat 5), (.nat 6), (.nat 6), (.nat 4), (.nat 1)])], .p (.tup 1 [(.nat 0), (.nat 0), (.nat 1), (.nat 2), (.nat 5), (.nat 14), (.nat 26), (.nat 44), (.nat 69), (.nat 94), (.nat 114), (.nat 116), (.nat 94), (.nat 60), (.nat 28), (.nat 8), (.nat 1)]))]
def t_multiplied : Tb := t_multiplied_0
def f_multiplied : MF := memF t_multiplied f0_multiplied
theorem u_multiplied_0 : tOk f0_multiplied t_multiplied_0 = true := by decide +kernel
theorem u_multiplied : TbOk f0_multiplied t_multiplied := tOk_true u_multiplied_0
theorem ok_multiplied (Z : Fx K mg) (D0 : Dx K mg "multiplied" 63) (C_trimmed : Cl P w K mg base 1 "trimmed" 1 f_trimmed) : Cl P w K mg base 2 "multiplied" 2 f_multiplied := by
  refine cl_mem ?_ u_multiplied
  obtain ⟨f, fd, F, hm⟩ := D0.ex
  refine ⟨f, fd, ["one", "other"], fn_ok F S_multiplied rfl rfl fun cdv A outer s H E hr => ?_, hm, F.kp, F.bindsN fun _ _ _ _ _ _ us hl => match us, hl with | [_, _], _ => rfl⟩
  have hu := hu_of hr
  exact (SC (sV 2 S_multiplied.nd (bMul (lS (aC cN a0)) (b2 (call_max2 rfl) max2_ok boot_max Z.b_max cN (bSub (bAdd (b1 call_len_seq len_ok boot_len Z.b_len (vL 0)) (b1 call_len_seq len_ok boot_len Z.b_len (vL 1))) cN)))) (SC (sF PassesOwn.never (iE Z.b_enumerate (vL 0)) (gT (gS (gL 3 S_multiplied.nd) (gS (gL 4 S_multiplied.nd) g0))) (SC (sI (qNe hu (vL 4) cN) (SC (sF PassesOwn.never (iE Z.b_enumerate (vL 1)) (gT (gS (gL 5 S_multiplied.nd) (gS (gL 6 S_multiplied.nd) g0))) (SC (sU hu (bAdd (ix hu (vL 2) (bAdd (vL 3) (vL 5))) (bMul (vL 4) (vL 6))) (vL 2) (bAdd (vL 3) (vL 5))) S0)) S0) S0) S0)) (SC (sR (kL C_trimmed hr (aC (vL 2) a0) (by decide))) S0)))
theorem S_derived : FnScope ["one", "k", "own"] ["one"] (defScope (top 64)) := ⟨rfl, rfl, rfl, by decide +kernel, rfl, by decide +kernel, by decide +kernel⟩
def c_derived : MS := (sSeq (sRet (eCall f_trimmed (aCons (eSl (eLc (iEnu (eVar 0)) (gTl 2 (gsCons (gNm 1) (gsCons (gNm 2) gsNil))) (bd0 (o2 mulD (eVar 1) (eVar 2))) [1, 2]) (oSome (eCst (.nat 1))) oNone) aNil))) sNil)
def f_derived : MF := mkF (unks 2) c_derived
theorem ok_derived (Z : Fx K mg) (D0 : Dx K mg "derived" 64) (C_trimmed : Cl P w K mg base 1 "trimmed" 1 f_trimmed) : Cl P w K mg base 2 "derived" 1 f_derived := by
  obtain ⟨f, fd, F, hm⟩ := D0.ex
  refine ⟨f, fd, ["one"], fn_ok F S_derived rfl rfl fun cdv A outer s H E hr => ?_, hm, F.kp, F.bindsN fun _ _ _ _ _ _ us hl => match us, hl with | [_], _ => rfl⟩
  have hu := hu_of hr
  exact (SC (sR (kL C_trimmed hr (aC (sl (lc0 [("k", 1), ("own", 2)] S_derived.nd (iE Z.b_enumerate (vL 0)) (fun _ _ _ _ _ => (gT (gS (gL 1 S_derived.nd) (gS (gL 2 S_derived.nd) g0)))) (fun _ _ _ _ _ => (bMul (vL 1) (vL 2)))) (s1 cN) s0) a0) (by decide))) S0)
theorem S_divided : FnScope ["one", "other", "left", "found", "place", "own", "k", "number"] ["one", "other"] (defScope (top 65)) := ⟨rfl, rfl, rfl, by decide +kernel, rfl, by decide +kernel, by decide +kernel⟩
def c_divided : MS := (sSeq (sPar2 2 3 (aCons (o1 listA (eVar 0)) (aCons (o2 mulD (eLst (aCons (eCst (.nat 0)) aNil)) (o2 max2D (eCst (.nat 0)) (o2 addD (o2 subD (o1 lenD (eVar 0)) (o1 lenD (eVar 1))) (eCst (.nat 1))))) aNil))) (sSeq (sFor (iRgD (o2 subD (o1 lenD (eVar 3)) (eCst (.nat 1))) (o1 negD (eCst (.nat 1)))) (gNm 4) (sSeq (sSet 5 (o2 ixG (eVar 2) (o2 subD (o2 addD (eVar 4) (o1 lenD (eVar 1))) (eCst (.nat 1))))) (sSeq (sSubG (eVar 5) (eVar 3) (eVar 4)) (sSeq (sFor (iEnu (eVar 1)) (gTl 2 (gsCons (gNm 6) (gsCons (gNm 7) gsNil))) (sSeq (sSubG (o2 subD (o2 ixG (eVar 2) (o2 addD (eVar 4) (eVar 6))) (o2 mulD (eVar 5) (eVar 7))) (eVar 2) (o2 addD (eVar 4) (eVar 6))) sNil)) sNil)))) (sSeq (sRet (eTup (aCons (eCall f_trimmed (aCons (eVar 3) aNil)) (aCons (eCall f_trimmed (aCons (eVar 2) aNil)) aNil)))) sNil)))
def f0_divided : MF := mkF (unks 6) c_divided
def t_divided_0 : Tb := [([(.tup 1 [(.nat 0), (.nat 1), (.nat 1)]), (.tup 1 [(.nat 0), (.nat 1)])], .p (.tup 2 [(.tup 1 [(.nat 1), (.nat 1)]), (.tup 1 [])])), ([(.tup 1 [(.nat 0), (.nat 1), (.nat 1), (.nat 2), (.nat 1)]), (.tup 1 [(.nat 0), (.nat 1)])], .p (.tup 2 [(.tup 1 [(.nat 1), (.nat 1), (.nat 2), (.nat 1)]), (.tup 1 [])])), ([(.tup 1 [(.nat 0), (.nat 1), (.nat 1), (.nat 2), (.nat 5), (.nat 6), (.nat 6), (.nat 4), (.nat 1)]), (.tup 1 [(.nat 0), (.nat 1)])], .p (.tup 2 [(.tup 1 [(.nat 1), (.nat 1), (.nat 2), (.nat 5), (.nat 6), (.nat 6), (.nat 4), (.nat 1)]), (.tup 1 [])])), ([(.tup 1 [(.nat 1), (.nat 1), (.nat 2), (.nat 5), (.nat 6), (.nat 6), (.nat 4), (.nat 1)]), (.tup 1 [(.nat 1), (.nat 1)])], .p (.tup 2 [(.tup 1 [(.nat 1), (.nat 0), (.nat 2), (.nat 3), (.nat 3), (.nat 3), (.nat 1)]), (.tup 1 [])])), ([(.tup 1 [(.nat 0), (.nat 1), (.nat 1), (.nat 2), (.nat 5), (.nat 14), (.nat 26), (.nat 44), (.nat 69), (.nat 94), (.nat 114), (.nat 116), (.nat 94), (.nat 60), (.nat 28), (.nat 8), (.nat 1)]), (.tup 1 [(.nat 0), (.nat 1)])], .p (.tup 2 [(.tup 1 [(.nat 1), (.nat 1), (.nat 2), (.nat 5), (.nat 14), (.nat 26), (.nat 44), (.nat 69), (.nat 94), (.nat 114), (.nat 116), (.nat 94), (.nat 60), (.nat 28), (.nat 8), (.nat 1)]), (.tup 1 [])]))]
def t_divided : Tb := t_divided_0
def f_divided : MF := memF t_divided f0_divided
theorem u_divided_0 : tOk f0_divided t_divided_0 = true := by decide +kernel
theorem u_divided : TbOk f0_divided t_divided := tOk_true u_divided_0
theorem ok_divided (Z : Fx K mg) (D0 : Dx K mg "divided" 65) (C_trimmed : Cl P w K mg base 1 "trimmed" 1 f_trimmed) : Cl P w K mg base 2 "divided" 2 f_divided := by
  refine cl_mem ?_ u_divided
  obtain ⟨f, fd, F, hm⟩ := D0.ex
  refine ⟨f, fd, ["one", "other"], fn_ok F S_divided rfl rfl fun cdv A outer s H E hr => ?_, hm, F.kp, F.bindsN fun _ _ _ _ _ _ us hl => match us, hl with | [_, _], _ => rfl⟩
  have hu := hu_of hr
  exact (SC (sP2 2 3 S_divided.nd (aC (t1 (call_listA rfl) listA_ok boot_list Z.b_list (vL 0)) (aC (bMul (lS (aC cN a0)) (b2 (call_max2 rfl) max2_ok boot_max Z.b_max cN (bAdd (bSub (b1 call_len_seq len_ok boot_len Z.b_len (vL 0)) (b1 call_len_seq len_ok boot_len Z.b_len (vL 1))) cN))) a0))) (SC (sF PassesOwn.never (iR3 Z.b_range (bSub (b1 call_len_seq len_ok boot_len Z.b_len (vL 3)) cN) (uNeg cN)) (gL 4 S_divided.nd) (SC (sV 5 S_divided.nd (ix hu (vL 2) (bSub (bAdd (vL 4) (b1 call_len_seq len_ok boot_len Z.b_len (vL 1))) cN))) (SC (sU hu (vL 5) (vL 3) (vL 4)) (SC (sF PassesOwn.never (iE Z.b_enumerate (vL 1)) (gT (gS (gL 6 S_divided.nd) (gS (gL 7 S_divided.nd) g0))) (SC (sU hu (bSub (ix hu (vL 2) (bAdd (vL 4) (vL 6))) (bMul (vL 5) (vL 7))) (vL 2) (bAdd (vL 4) (vL 6))) S0)) S0)))) (SC (sR (tU (aC (kL C_trimmed hr (aC (vL 3) a0) (by decide)) (aC (kL C_trimmed hr (aC (vL 2) a0) (by decide)) a0)))) S0)))
theorem S_small : FnScope ["one", "shared", "own"] ["one"] (defScope (top 66)) := ⟨rfl, rfl, rfl, by decide +kernel, rfl, by decide +kernel, by decide +kernel⟩
def c_small : MS := (sSeq (sSet 1 (eCst (.nat 0))) (sSeq (sFor (iSeq (eVar 0)) (gNm 2) (sSeq (sSet 1 (o2 gcdD (eVar 1) (eVar 2))) sNil)) (sSeq (sRet (eIf (t2 gtD (eVar 1) (eCst (.nat 1))) (o1 tupleD (eLc (iSeq (eVar 0)) (gNm 2) (bd0 (o2 divD (eVar 2) (eVar 1))) [2])) (eVar 0))) sNil)))
def f_small : MF := mkF (unks 2) c_small
theorem ok_small (Z : Fx K mg) (D0 : Dx K mg "small" 66)  : Cl P w K mg base 1 "small" 1 f_small := by
  obtain ⟨f, fd, F, hm⟩ := D0.ex
  refine ⟨f, fd, ["one"], fn_ok F S_small rfl rfl fun cdv A outer s H E hr => ?_, hm, F.kp, F.bindsN fun _ _ _ _ _ _ us hl => match us, hl with | [_], _ => rfl⟩
  have hu := hu_of hr
  exact (SC (sW 1 S_small.nd cN) (SC (sF PassesOwn.never (iQ (vL 0)) (gL 2 S_small.nd) (SC (sW 1 S_small.nd (f2 cr_gcd gcd_ok Z.f_gcd (vC 1) (vL 2))) S0)) (SC (sR (ok_if (qGt (vC 1) cN) (t1 call_tuple_of tuple_ok boot_tuple Z.b_tuple (lc0 [("own", 2)] S_small.nd (iQ (vL 0)) (fun _ _ _ _ _ => (gL 2 S_small.nd)) (fun _ _ _ _ _ => (bDiv (vL 2) (vC 1))))) (vL 0))) S0)))
theorem S_rest_against : FnScope ["one", "other", "left", "lead", "size", "sign", "top", "lift", "kept", "k", "number", "own"] ["one", "other"] (defScope (top 67)) := ⟨rfl, rfl, rfl, by decide +kernel, rfl, by decide +kernel, by decide +kernel⟩
def c_rest_against : MS := (sSeq (sPar2 2 3 (aCons (eVar 0) (aCons (o2 ixG (eVar 1) (o1 negD (eCst (.nat 1)))) aNil))) (sSeq (sAsg (gTl 2 (gsCons (gNm 4) (gsCons (gNm 5) gsNil))) (eTup (aCons (o1 absD (eVar 3)) (aCons (eIf (t2 gtD (eVar 3) (eCst (.nat 0))) (eCst (.nat 1)) (o1 negD (eCst (.nat 1)))) aNil)))) (sSeq (sWh 100000 (t2 geD (o1 lenD (eVar 2)) (o1 lenD (eVar 1))) (sSeq (sPar2 6 7 (aCons (o2 mulD (o2 ixG (eVar 2) (o1 negD (eCst (.nat 1)))) (eVar 5)) (aCons (o2 subD (o1 lenD (eVar 2)) (o1 lenD (eVar 1))) aNil))) (sSeq (sSet 8 (eLc (iSeq (eVar 2)) (gNm 11) (bd0 (o2 mulD (eVar 11) (eVar 4))) [11])) (sSeq (sFor (iEnu (eVar 1)) (gTl 2 (gsCons (gNm 9) (gsCons (gNm 10) gsNil))) (sSeq (sSubG (o2 subD (o2 ixG (eVar 8) (o2 addD (eVar 7) (eVar 9))) (o2 mulD (eVar 6) (eVar 10))) (eVar 8) (o2 addD (eVar 7) (eVar 9))) sNil)) (sSeq (sSet 2 (eCall f_trimmed (aCons (eVar 8) aNil))) sNil))))) (sSeq (sRet (eCall f_small (aCons (o1 tupleD (eLc (iSeq (eVar 2)) (gNm 11) (bd0 (o1 negD (eVar 11))) [11])) aNil))) sNil))))
def f0_rest_against : MF := mkF (unks 10) c_rest_against
def t_rest_against_0 : Tb := [([(.tup 1 [(.nat 0), (.nat 1), (.nat 1)]), (.tup 1 [(.nat 1), (.nat 2)])], .p (.tup 1 [(.nat 1)])), ([(.tup 1 [(.nat 1), (.nat 1), (.nat 2), (.nat 1)]), (.tup 1 [(.nat 1), (.nat 4), (.nat 3)])], .p (.tup 1 [(.neg 6), (.nat 2)])), ([(.tup 1 [(.nat 1), (.nat 4), (.nat 3)]), (.tup 1 [(.neg 6), (.nat 2)])], .p (.tup 1 [(.neg 0)])), ([(.tup 1 [(.nat 0), (.nat 1), (.nat 1), (.nat 2), (.nat 1)]), (.tup 1 [(.nat 1), (.nat 2), (.nat 6), (.nat 4)])], .p (.tup 1 [(.nat 1), (.neg 3), (.nat 2)])), ([(.tup 1 [(.nat 1), (.nat 2), (.nat 6), (.nat 4)]), (.tup 1 [(.nat 1), (.neg 3), (.nat 2)])], .p (.tup 1 [(.nat 3), (.neg 13)])), ([(.tup 1 [(.nat 1), (.neg 3), (.nat 2)]), (.tup 1 [(.nat 3), (.neg 13)])], .p (.tup 1 [(.neg 0)])), ([(.tup 1 [(.neg 0), (.neg 0), (.nat 1)]), (.tup 1 [(.neg 0), (.nat 2)])], .p (.tup 1 [(.nat 1)])), ([(.tup 1 [(.nat 1), (.nat 0), (.nat 2), (.nat 3), (.nat 3), (.nat 3), (.nat 1)]), (.tup 1 [(.nat 0), (.nat 4), (.nat 9), (.nat 12), (.nat 15), (.nat 6)])], .p (.tup 1 [(.neg 11), (.nat 4), (.neg 6), (.neg 5), (.nat 3)])), ([(.tup 1 [(.nat 0), (.nat 4), (.nat 9), (.nat 12), (.nat 15), (.nat 6)]), (.tup 1 [(.neg 11), (.nat 4), (.neg 6), (.neg 5), (.nat 3)])], .p (.tup 1 [(.neg 26), (.nat 2), (.neg 15), (.neg 19)])), ([(.tup 1 [(.neg 11), (.nat 4), (.neg 6), (.neg 5), (.nat 3)]), (.tup 1 [(.neg 26), (.nat 2), (.neg 15), (.neg 19)])], .p (.tup 1 [(.nat 66), (.nat 89), (.neg 1)])), ([(.tup 1 [(.neg 26), (.nat 2), (.neg 15), (.neg 19)]), (.tup 1 [(.nat 66), (.nat 89), (.neg 1)])], .p (.tup 1 [(.nat 1197), (.nat 1639)])), ([(.tup 1 [(.nat 66), (.nat 89), (.neg 1)]), (.tup 1 [(.nat 1197), (.nat 1639)])], .p (.tup 1 [(.nat 1)])), ([(.tup 1 [(.nat 0), (.nat 1), (.nat 1), (.nat 2), (.nat 5), (.nat 6), (.nat 6), (.nat 4), (.nat 1)]), (.tup 1 [(.nat 1), (.nat 2), (.nat 6), (.nat 20), (.nat 30), (.nat 36), (.nat 28), (.nat 8)])], .p (.tup 1 [(.nat 1), (.neg 11), (.neg 5), (.nat 0), (.neg 9), (.nat 0), (.nat 4)])), ([(.tup 1 [(.nat 1), (.nat 2), (.nat 6), (.nat 20), (.nat 30), (.nat 36), (.nat 28), (.nat 8)]), (.tup 1 [(.nat 1), (.neg 11), (.neg 5), (.nat 0), (.neg 9), (.nat 0), (.nat 4)])], .p (.tup 1 [(.nat 3), (.neg 41), (.neg 35), (.neg 15), (.neg 49), (.neg 27)])), ([(.tup 1 [(.nat 1), (.neg 11), (.neg 5), (.nat 0), (.neg 9), (.nat 0), (.nat 4)]), (.tup 1 [(.nat 3), (.neg 41), (.neg 35), (.neg 15), (.neg 49), (.neg 27)])], .p (.tup 1 [(.neg 22), (.nat 84), (.nat 276), (.nat 104), (.neg 45)])), ([(.tup 1 [(.nat 3), (.neg 41), (.neg 35), (.neg 15), (.neg 49), (.neg 27)]), (.tup 1 [(.neg 22), (.nat 84), (.nat 276), (.nat 104), (.neg 45)])], .p (.tup 1 [(.neg 160), (.nat 634), (.nat 2070), (.nat 1188)])), ([(.tup 1 [(.neg 22), (.nat 84), (.nat 276), (.nat 104), (.neg 45)]), (.tup 1 [(.neg 160), (.nat 634), (.nat 2070), (.nat 1188)])], .p (.tup 1 [(.neg 144), (.nat 1520), (.nat 1506)])), ([(.tup 1 [(.neg 160), (.nat 634), (.nat 2070), (.nat 1188)]), (.tup 1 [(.neg 144), (.nat 1520), (.nat 1506)])], .p (.tup 1 [(.nat 20083), (.nat 34018)])), ([(.tup 1 [(.neg 144), (.nat 1520), (.nat 1506)]), (.tup 1 [(.nat 20083), (.nat 34018)])], .p (.tup 1 [(.nat 1)])), ([(.tup 1 [(.neg 0), (.neg 0), (.neg 0), (.nat 1)]), (.tup 1 [(.neg 0), (.neg 1), (.nat 3)])], .p (.tup 1 [(.nat 5), (.nat 4)])), ([(.tup 1 [(.neg 0), (.neg 1), (.nat 3)]), (.tup 1 [(.nat 5), (.nat 4)])], .p (.tup 1 [(.neg 0)])), ([(.tup 1 [(.nat 1), (.neg 0), (.neg 0), (.nat 1)]), (.tup 1 [(.neg 0), (.neg 1), (.nat 3)])], .p (.tup 1 [(.neg 0), (.nat 1)])), ([(.tup 1 [(.neg 0), (.neg 1), (.nat 3)]), (.tup 1 [(.neg 0), (.nat 1)])], .p (.tup 1 [])), ([(.tup 1 [(.neg 0), (.nat 0), (.nat 1)]), (.tup 1 [(.nat 0), (.nat 2)])], .p (.tup 1 [(.nat 1)])), ([(.tup 1 [(.nat 1), (.nat 1), (.nat 2), (.nat 5), (.nat 14), (.nat 26), (.nat 44), (.nat 69), (.nat 94), (.nat 114), (.nat 116), (.nat 94), (.nat 60), (.nat 28), (.nat 8), (.nat 1)]), (.tup 1 [(.nat 1), (.nat 4), (.nat 15), (.nat 56), (.nat 130), (.nat 264), (.nat 483), (.nat 752), (.nat 1026), (.nat 1160), (.nat 1034), (.nat 720), (.nat 364), (.nat 112), (.nat 15)])], .p (.tup 1 [(.neg 216), (.neg 177), (.neg 269), (.neg 451), (.neg 1269), (.neg 1787), (.neg 2075), (.neg 2263), (.neg 1661), (.neg 979), (.neg 427), (.nat 120), (.nat 212), (.nat 56)])), ([(.tup 1 [(.nat 1), (.nat 4), (.nat 15), (.nat 56), (.nat 130), (.nat 264), (.nat 483), (.nat 752), (.nat 1026), (.nat 1160), (.nat 1034), (.nat 720), (.nat 364), (.nat 112), (.nat 15)]), (.tup 1 [(.neg 216), (.neg 177), (.neg 269), (.neg 451), (.neg 1269), (.neg 1787), (.neg 2075), (.neg 2263), (.neg 1661), (.neg 979), (.neg 427), (.nat 120), (.nat 212), (.nat 56)])], .p (.tup 1 [(.neg 748), (.neg 827), (.neg 1145), (.neg 1999), (.neg 5237), (.neg 8247), (.neg 10483), (.neg 12335), (.neg 11397), (.neg 8959), (.neg 5987), (.neg 2495), (.neg 427)])), ([(.tup 1 [(.neg 216), (.neg 177), (.neg 269), (.neg 451), (.neg 1269), (.neg 1787), (.neg 2075), (.neg 2263), (.neg 1661), (.neg 979), (.neg 427), (.nat 120), (.nat 212), (.nat 56)]), (.tup 1 [(.neg 748), (.neg 827), (.neg 1145), (.neg 1999), (.neg 5237), (.neg 8247), (.neg 10483), (.neg 12335), (.neg 11397), (.neg 8959), (.neg 5987), (.neg 2495), (.neg 427)])], .p (.tup 1 [(.nat 963), (.nat 3174), (.nat 4179), (.nat 3886), (.nat 7560), (.nat 15496), (.nat 20358), (.nat 19468), (.nat 13126), (.nat 4244), (.neg 157), (.neg 275)])), ([(.tup 1 [(.neg 748), (.neg 827), (.neg 1145), (.neg 1999), (.neg 5237), (.neg 8247), (.neg 10483), (.neg 12335), (.neg 11397), (.neg 8959), (.neg 5987), (.neg 2495), (.neg 427)]), (.tup 1 [(.nat 963), (.nat 3174), (.nat 4179), (.nat 3886), (.nat 7560), (.nat 15496), (.nat 20358), (.nat 19468), (.nat 13126), (.nat 4244), (.neg 157), (.neg 275)])], .p (.tup 1 [(.nat 7155), (.nat 23460), (.nat 33393), (.nat 33412), (.nat 60648), (.nat 121720), (.nat 166794), (.nat 168568), (.nat 123622), (.nat 53168), (.nat 9382)])), ([(.tup 1 [(.nat 963), (.nat 3174), (.nat 4179), (.nat 3886), (.nat 7560), (.nat 15496), (.nat 20358), (.nat 19468), (.nat 13126), (.nat 4244), (.neg 157), (.neg 275)]), (.tup 1 [(.nat 7155), (.nat 23460), (.nat 33393), (.nat 33412), (.nat 60648), (.nat 121720), (.nat 166794), (.nat 168568), (.nat 123622), (.nat 53168), (.nat 9382)])], .p (.tup 1 [(.nat 252671), (.nat 303918), (.nat 313200), (.nat 321608), (.nat 1263004), (.nat 2223800), (.nat 2447292), (.nat 2054152), (.nat 1022678), (.nat 202612)])), ([(.tup 1 [(.nat 7155), (.nat 23460), (.nat 33393), (.nat 33412), (.nat 60648), (.nat 121720), (.nat 166794), (.nat 168568), (.nat 123622), (.nat 53168), (.nat 9382)]), (.tup 1 [(.nat 252671), (.nat 303918), (.nat 313200), (.nat 321608), (.nat 1263004), (.nat 2223800), (.nat 2447292), (.nat 2054152), (.nat 1022678), (.nat 202612)])], .p (.tup 1 [(.nat 43725), (.neg 1418283), (.neg 4819919), (.neg 4515831), (.neg 4440939), (.nat 261744), (.nat 2979596), (.nat 1718624), (.nat 389490)])), ([(.tup 1 [(.nat 252671), (.nat 303918), (.nat 313200), (.nat 321608), (.nat 1263004), (.nat 2223800), (.nat 2447292), (.nat 2054152), (.nat 1022678), (.nat 202612)]), (.tup 1 [(.nat 43725), (.neg 1418283), (.neg 4819919), (.neg 4515831), (.neg 4440939), (.nat 261744), (.nat 2979596), (.nat 1718624), (.nat 389490)])], .p (.tup 1 [(.neg 440174), (.neg 1385125), (.neg 4883594), (.neg 7983097), (.neg 9384529), (.neg 8217683), (.neg 2451790), (.nat 117346)])), ([(.tup 1 [(.nat 43725), (.neg 1418283), (.neg 4819919), (.neg 4515831), (.neg 4440939), (.nat 261744), (.nat 2979596), (.nat 1718624), (.nat 389490)]), (.tup 1 [(.neg 440174), (.neg 1385125), (.neg 4883594), (.neg 7983097), (.neg 9384529), (.neg 8217683), (.neg 2451790), (.nat 117346)])], .p (.tup 1 [(.neg 6719970), (.neg 21128927), (.neg 74427384), (.neg 123853579), (.neg 147104633), (.neg 131010095), (.neg 42878856)])), ([(.tup 1 [(.neg 440174), (.neg 1385125), (.neg 4883594), (.neg 7983097), (.neg 9384529), (.neg 8217683), (.neg 2451790), (.nat 117346)]), (.tup 1 [(.neg 6719970), (.neg 21128927), (.neg 74427384), (.neg 123853579), (.neg 147104633), (.neg 131010095), (.neg 42878856)])], .p (.tup 1 [(.neg 9874572), (.nat 713562642), (.nat 2417514986), (.nat 2643367372), (.nat 3131593238), (.nat 1286618196)])), ([(.tup 1 [(.neg 6719970), (.neg 21128927), (.neg 74427384), (.neg 123853579), (.neg 147104633), (.neg 131010095), (.neg 42878856)]), (.tup 1 [(.neg 9874572), (.nat 713562642), (.nat 2417514986), (.nat 2643367372), (.nat 3131593238), (.nat 1286618196)])], .p (.tup 1 [(.nat 152744290193), (.nat 147375854952), (.nat 12863151218), (.neg 252682725055), (.neg 128853924069)])), ([(.tup 1 [(.neg 9874572), (.nat 713562642), (.nat 2417514986), (.nat 2643367372), (.nat 3131593238), (.nat 1286618196)]), (.tup 1 [(.nat 152744290193), (.nat 147375854952), (.nat 12863151218), (.neg 252682725055), (.neg 128853924069)])], .p (.tup 1 [(.neg 1019444081700), (.neg 4205006389693), (.neg 5659469103920), (.neg 2261699827437)])), ([(.tup 1 [(.nat 152744290193), (.nat 147375854952), (.nat 12863151218), (.neg 252682725055), (.neg 128853924069)]), (.tup 1 [(.neg 1019444081700), (.neg 4205006389693), (.neg 5659469103920), (.neg 2261699827437)])], .p (.tup 1 [(.neg 74745358933978), (.neg 46691296294311), (.neg 47998150758580)])), ([(.tup 1 [(.neg 1019444081700), (.neg 4205006389693), (.neg 5659469103920), (.neg 2261699827437)]), (.tup 1 [(.neg 74745358933978), (.neg 46691296294311), (.neg 47998150758580)])], .p (.tup 1 [(.neg 3934199175089276), (.neg 2416016202276493)])), ([(.tup 1 [(.neg 74745358933978), (.neg 46691296294311), (.neg 47998150758580)]), (.tup 1 [(.neg 3934199175089276), (.neg 2416016202276493)])], .p (.tup 1 [(.nat 1)])), ([(.tup 1 [(.nat 0), (.nat 1), (.nat 1), (.nat 2), (.nat 5), (.nat 14), (.nat 26), (.nat 44), (.nat 69), (.nat 94), (.nat 114), (.nat 116), (.nat 94), (.nat 60), (.nat 28), (.nat 8), (.nat 1)]), (.tup 1 [(.nat 1), (.nat 2), (.nat 6), (.nat 20), (.nat 70), (.nat 156), (.nat 308), (.nat 552), (.nat 846), (.nat 1140), (.nat 1276), (.nat 1128), (.nat 780), (.nat 392), (.nat 120), (.nat 16)])], .p (.tup 1 [(.nat 1), (.neg 27), (.neg 21), (.neg 31), (.neg 49), (.neg 151), (.neg 211), (.neg 239), (.neg 257), (.neg 175), (.neg 91), (.neg 31), (.nat 28), (.nat 32), (.nat 8)])), ([(.tup 1 [(.nat 1), (.nat 2), (.nat 6), (.nat 20), (.nat 70), (.nat 156), (.nat 308), (.nat 552), (.nat 846), (.nat 1140), (.nat 1276), (.nat 1128), (.nat 780), (.nat 392), (.nat 120), (.nat 16)]), (.tup 1 [(.nat 1), (.neg 27), (.neg 21), (.neg 31), (.neg 49), (.neg 151), (.neg 211), (.neg 239), (.neg 257), (.neg 175), (.neg 91), (.neg 31), (.nat 28), (.nat 32), (.nat 8)])], .p (.tup 1 [(.nat 3), (.neg 97), (.neg 107), (.neg 143), (.neg 241), (.neg 659), (.neg 1047), (.neg 1327), (.neg 1565), (.neg 1443), (.neg 1135), (.neg 767), (.neg 323), (.neg 55)])), ([(.tup 1 [(.nat 1), (.neg 27), (.neg 21), (.neg 31), (.neg 49), (.neg 151), (.neg 211), (.neg 239), (.neg 257), (.neg 175), (.neg 91), (.neg 31), (.nat 28), (.nat 32), (.nat 8)]), (.tup 1 [(.nat 3), (.neg 97), (.neg 107), (.neg 143), (.neg 241), (.neg 659), (.neg 1047), (.neg 1327), (.neg 1565), (.neg 1443), (.neg 1135), (.neg 767), (.neg 323), (.neg 55)])], .p (.tup 1 [(.neg 22), (.nat 252), (.nat 828), (.nat 1048), (.nat 866), (.nat 1784), (.nat 3816), (.nat 4992), (.nat 4726), (.nat 3072), (.nat 832), (.neg 159), (.neg 91)])), ([(.tup 1 [(.nat 3), (.neg 97), (.neg 107), (.neg 143), (.neg 241), (.neg 659), (.neg 1047), (.neg 1327), (.neg 1565), (.neg 1443), (.neg 1135), (.neg 767), (.neg 323), (.neg 55)]), (.tup 1 [(.neg 22), (.nat 252), (.nat 828), (.nat 1048), (.nat 866), (.nat 1784), (.nat 3816), (.nat 4992), (.nat 4726), (.nat 3072), (.nat 832), (.neg 159), (.neg 91)])], .p (.tup 1 [(.neg 160), (.nat 1902), (.nat 6210), (.nat 8716), (.nat 8132), (.nat 15064), (.nat 31128), (.nat 43040), (.nat 43846), (.nat 32084), (.nat 13644), (.nat 2376)])), ([(.tup 1 [(.neg 22), (.nat 252), (.nat 828), (.nat 1048), (.nat 866), (.nat 1784), (.nat 3816), (.nat 4992), (.nat 4726), (.nat 3072), (.nat 832), (.neg 159), (.neg 91)]), (.tup 1 [(.neg 160), (.nat 1902), (.nat 6210), (.nat 8716), (.nat 8132), (.nat 15064), (.nat 31128), (.nat 43040), (.nat 43846), (.nat 32084), (.nat 13644), (.nat 2376)])], .p (.tup 1 [(.neg 144), (.nat 3636), (.nat 4518), (.nat 4640), (.nat 4228), (.nat 17504), (.nat 31560), (.nat 35152), (.nat 29942), (.nat 15088), (.nat 3012)])), ([(.tup 1 [(.neg 160), (.nat 1902), (.nat 6210), (.nat 8716), (.nat 8132), (.nat 15064), (.nat 31128), (.nat 43040), (.nat 43846), (.nat 32084), (.nat 13644), (.nat 2376)]), (.tup 1 [(.neg 144), (.nat 3636), (.nat 4518), (.nat 4640), (.nat 4228), (.nat 17504), (.nat 31560), (.nat 35152), (.nat 29942), (.nat 15088), (.nat 3012)])], .p (.tup 1 [(.nat 20083), (.nat 22494), (.neg 189755), (.neg 642655), (.neg 527595), (.neg 418039), (.nat 242592), (.nat 568880), (.nat 312310), (.nat 68036)])), ([(.tup 1 [(.neg 144), (.nat 3636), (.nat 4518), (.nat 4640), (.nat 4228), (.nat 17504), (.nat 31560), (.nat 35152), (.nat 29942), (.nat 15088), (.nat 3012)]), (.tup 1 [(.nat 20083), (.nat 22494), (.neg 189755), (.neg 642655), (.neg 527595), (.neg 418039), (.nat 242592), (.nat 568880), (.nat 312310), (.nat 68036)])], .p (.tup 1 [(.nat 58673), (.neg 264155), (.neg 798395), (.neg 2830039), (.neg 4814755), (.neg 5512111), (.neg 5166687), (.neg 1571695), (.nat 117346)])), ([(.tup 1 [(.nat 20083), (.nat 22494), (.neg 189755), (.neg 642655), (.neg 527595), (.neg 418039), (.nat 242592), (.nat 568880), (.nat 312310), (.nat 68036)]), (.tup 1 [(.nat 58673), (.neg 264155), (.neg 798395), (.neg 2830039), (.neg 4814755), (.neg 5512111), (.neg 5166687), (.neg 1571695), (.nat 117346)])], .p (.tup 1 [(.nat 880095), (.neg 4079685), (.neg 12327977), (.neg 43624059), (.neg 76328449), (.neg 89018363), (.neg 85245155), (.neg 29677431)])), ([(.tup 1 [(.nat 58673), (.neg 264155), (.neg 798395), (.neg 2830039), (.neg 4814755), (.neg 5512111), (.neg 5166687), (.neg 1571695), (.nat 117346)]), (.tup 1 [(.nat 880095), (.neg 4079685), (.neg 12327977), (.neg 43624059), (.neg 76328449), (.neg 89018363), (.neg 85245155), (.neg 29677431)])], .p (.tup 1 [(.neg 931510), (.neg 773191), (.nat 9742966), (.nat 32891568), (.nat 35151962), (.nat 39879328), (.nat 16201756)])), ([(.tup 1 [(.nat 880095), (.neg 4079685), (.neg 12327977), (.neg 43624059), (.neg 76328449), (.neg 89018363), (.neg 85245155), (.neg 29677431)]), (.tup 1 [(.neg 931510), (.neg 773191), (.nat 9742966), (.nat 32891568), (.nat 35151962), (.nat 39879328), (.nat 16201756)])], .p (.tup 1 [(.neg 28286784), (.nat 1007092586), (.nat 1013707704), (.nat 160837296), (.neg 1641970341), (.neg 852693139)])), ([(.tup 1 [(.neg 931510), (.neg 773191), (.nat 9742966), (.nat 32891568), (.nat 35151962), (.nat 39879328), (.nat 16201756)]), (.tup 1 [(.neg 28286784), (.nat 1007092586), (.nat 1013707704), (.nat 160837296), (.neg 1641970341), (.neg 852693139)])], .p (.tup 1 [(.nat 34349118135), (.neg 251867715975), (.neg 1104099622543), (.neg 1515104427455), (.neg 605366219757)])), ([(.tup 1 [(.neg 28286784), (.nat 1007092586), (.nat 1013707704), (.nat 160837296), (.neg 1641970341), (.neg 852693139)]), (.tup 1 [(.nat 34349118135), (.neg 251867715975), (.neg 1104099622543), (.neg 1515104427455), (.neg 605366219757)])], .p (.tup 1 [(.nat 9607304143), (.neg 20000458364981), (.neg 12491396245833), (.neg 12847259096091)])), ([(.tup 1 [(.nat 34349118135), (.neg 251867715975), (.neg 1104099622543), (.neg 1515104427455), (.neg 605366219757)]), (.tup 1 [(.nat 9607304143), (.neg 20000458364981), (.neg 12491396245833), (.neg 12847259096091)])], .p (.tup 1 [(.neg 15158301870024), (.neg 535983242799231), (.neg 332911602720653)])), ([(.tup 1 [(.nat 9607304143), (.neg 20000458364981), (.neg 12491396245833), (.neg 12847259096091)]), (.tup 1 [(.neg 15158301870024), (.neg 535983242799231), (.neg 332911602720653)])], .p (.tup 1 [(.nat 488061069652691), (.nat 43788049185016274)])), ([(.tup 1 [(.neg 15158301870024), (.neg 535983242799231), (.neg 332911602720653)]), (.tup 1 [(.nat 488061069652691), (.nat 43788049185016274)])], .p (.tup 1 [(.nat 1)])), ([(.tup 1 [(.nat 1), (.neg 0), (.neg 0), (.neg 0), (.nat 1)]), (.tup 1 [(.neg 0), (.neg 1), (.neg 2), (.nat 4)])], .p (.tup 1 [(.neg 14), (.nat 14), (.nat 11)])), ([(.tup 1 [(.neg 0), (.neg 1), (.neg 2), (.nat 4)]), (.tup 1 [(.neg 14), (.nat 14), (.nat 11)])], .p (.tup 1 [(.nat 7), (.neg 7)])), ([(.tup 1 [(.neg 14), (.nat 14), (.nat 11)]), (.tup 1 [(.nat 7), (.neg 7)])], .p (.tup 1 [(.neg 0)])), ([(.tup 1 [(.neg 0), (.nat 1), (.neg 0), (.neg 0), (.nat 1)]), (.tup 1 [(.nat 1), (.neg 1), (.neg 2), (.nat 4)])], .p (.tup 1 [(.nat 15), (.neg 9), (.nat 11)])), ([(.tup 1 [(.nat 1), (.neg 1), (.neg 2), (.nat 4)]), (.tup 1 [(.nat 15), (.neg 9), (.nat 11)])], .p (.tup 1 [(.neg 0), (.nat 52)])), ([(.tup 1 [(.nat 15), (.neg 9), (.nat 11)]), (.tup 1 [(.neg 0), (.nat 52)])], .p (.tup 1 [(.neg 0)])), ([(.tup 1 [(.nat 1), (.neg 0), (.neg 0), (.neg 0), (.nat 1)]), (.tup 1 [(.neg 0), (.nat 1), (.neg 0), (.neg 0), (.nat 1)])], .p (.tup 1 [(.neg 0), (.nat 1)])), ([(.tup 1 [(.neg 0), (.nat 1), (.neg 0), (.neg 0), (.nat 1)]), (.tup 1 [(.neg 0), (.nat 1)])], .p (.tup 1 [(.nat 1)])), ([(.tup 1 [(.neg 0), (.neg 0), (.neg 0), (.neg 0), (.nat 1)]), (.tup 1 [(.neg 0), (.neg 1), (.neg 2), (.nat 4)])], .p (.tup 1 [(.nat 17), (.nat 14), (.nat 11)])), ([(.tup 1 [(.neg 0), (.neg 1), (.neg 2), (.nat 4)]), (.tup 1 [(.nat 17), (.nat 14), (.nat 11)])], .p (.tup 1 [(.neg 86), (.neg 15)])), ([(.tup 1 [(.nat 17), (.nat 14), (.nat 11)]), (.tup 1 [(.neg 86), (.neg 15)])], .p (.tup 1 [(.neg 0)])), ([(.tup 1 [(.neg 0), (.neg 0), (.neg 0), (.neg 0), (.nat 1)]), (.tup 1 [(.nat 1), (.neg 0), (.neg 0), (.neg 0), (.nat 1)])], .p (.tup 1 [(.nat 1)]))]
def t_rest_against : Tb := t_rest_against_0
def f_rest_against : MF := memF t_rest_against f0_rest_against
theorem u_rest_against_0 : tOk f0_rest_against t_rest_against_0 = true := by decide +kernel
theorem u_rest_against : TbOk f0_rest_against t_rest_against := tOk_true u_rest_against_0
theorem ok_rest_against (Z : Fx K mg) (D0 : Dx K mg "rest_against" 67) (C_small : Cl P w K mg base 1 "small" 1 f_small) (C_trimmed : Cl P w K mg base 1 "trimmed" 1 f_trimmed) : Cl P w K mg base 2 "rest_against" 2 f_rest_against := by
  refine cl_mem ?_ u_rest_against
  obtain ⟨f, fd, F, hm⟩ := D0.ex
  refine ⟨f, fd, ["one", "other"], fn_ok F S_rest_against rfl rfl fun cdv A outer s H E hr => ?_, hm, F.kp, F.bindsN fun _ _ _ _ _ _ us hl => match us, hl with | [_, _], _ => rfl⟩
  have hu := hu_of hr
  exact (SC (sP2 2 3 S_rest_against.nd (aC (vL 0) (aC (ix hu (vL 1) (uNeg cN)) a0))) (SC (sA (tU (aC (b1 call_abs abs_ok boot_abs Z.b_abs (vL 3)) (aC (ok_if (qGt (vL 3) cN) cN (uNeg cN)) a0))) (gT (gS (gC 4 S_rest_against.nd) (gS (gL 5 S_rest_against.nd) g0)))) (SC (sL 100000 PassesOwn.never (qGe (b1 call_len_seq len_ok boot_len Z.b_len (vL 2)) (b1 call_len_seq len_ok boot_len Z.b_len (vL 1))) (SC (sP2 6 7 S_rest_against.nd (aC (bMul (ix hu (vL 2) (uNeg cN)) (vL 5)) (aC (bSub (b1 call_len_seq len_ok boot_len Z.b_len (vL 2)) (b1 call_len_seq len_ok boot_len Z.b_len (vL 1))) a0))) (SC (sc0 8 [("own", 11)] S_rest_against.nd (iQ (vL 2)) (fun _ _ _ _ _ => (gL 11 S_rest_against.nd)) (fun _ _ _ _ _ => (bMul (vL 11) (vC 4)))) (SC (sF PassesOwn.never (iE Z.b_enumerate (vL 1)) (gT (gS (gL 9 S_rest_against.nd) (gS (gL 10 S_rest_against.nd) g0))) (SC (sU hu (bSub (ix hu (vL 8) (bAdd (vL 7) (vL 9))) (bMul (vL 6) (vL 10))) (vL 8) (bAdd (vL 7) (vL 9))) S0)) (SC (sV 2 S_rest_against.nd (kL C_trimmed hr (aC (vL 8) a0) (by decide))) S0))))) (SC (sR (kL C_small hr (aC (t1 call_tuple_of tuple_ok boot_tuple Z.b_tuple (lc0 [("own", 11)] S_rest_against.nd (iQ (vL 2)) (fun _ _ _ _ _ => (gL 11 S_rest_against.nd)) (fun _ _ _ _ _ => (uNeg (vL 11))))) a0) (by decide))) S0))))
theorem S_chain_of : FnScope ["one", "found", "own"] ["one"] (defScope (top 68)) := ⟨rfl, rfl, rfl, by decide +kernel, rfl, by decide +kernel, by decide +kernel⟩
def c_chain_of : MS := (sSeq (sSet 1 (eLst (aCons (eVar 0) (aCons (eCall f_derived (aCons (eVar 0) aNil)) aNil)))) (sSeq (sWh 100000 (tAnd (t2 neH (o2 ixG (eVar 1) (o1 negD (eCst (.nat 1)))) (eTup aNil)) (t2 gtD (o1 lenD (o2 ixG (eVar 1) (o1 negD (eCst (.nat 1))))) (eCst (.nat 1)))) (sSeq (sExp (eMt apD (eVar 1) (aCons (eCall f_rest_against (aCons (o2 ixG (eVar 1) (o1 negD (eCst (.nat 2)))) (aCons (o2 ixG (eVar 1) (o1 negD (eCst (.nat 1)))) aNil))) aNil))) sNil)) (sSeq (sRet (eLc (iSeq (eVar 1)) (gNm 2) (bd1 (t2 neH (eVar 2) (eTup aNil)) (eVar 2)) [2])) sNil)))
def f0_chain_of : MF := mkF (unks 2) c_chain_of
def t_chain_of_0 : Tb := [([(.tup 1 [(.nat 1), (.nat 1)])], .l [(.tup 1 [(.nat 1), (.nat 1)]), (.tup 1 [(.nat 1)])]), ([(.tup 1 [(.nat 0), (.nat 1)])], .l [(.tup 1 [(.nat 0), (.nat 1)]), (.tup 1 [(.nat 1)])]), ([(.tup 1 [(.nat 0), (.nat 1), (.nat 1)])], .l [(.tup 1 [(.nat 0), (.nat 1), (.nat 1)]), (.tup 1 [(.nat 1), (.nat 2)]), (.tup 1 [(.nat 1)])]), ([(.tup 1 [(.neg 0), (.nat 1)])], .l [(.tup 1 [(.neg 0), (.nat 1)]), (.tup 1 [(.nat 1)])]), ([(.tup 1 [(.nat 1), (.nat 1), (.nat 2), (.nat 1)])], .l [(.tup 1 [(.nat 1), (.nat 1), (.nat 2), (.nat 1)]), (.tup 1 [(.nat 1), (.nat 4), (.nat 3)]), (.tup 1 [(.neg 6), (.nat 2)]), (.tup 1 [(.neg 0)])]), ([(.tup 1 [(.nat 0), (.nat 1), (.nat 1), (.nat 2), (.nat 1)])], .l [(.tup 1 [(.nat 0), (.nat 1), (.nat 1), (.nat 2), (.nat 1)]), (.tup 1 [(.nat 1), (.nat 2), (.nat 6), (.nat 4)]), (.tup 1 [(.nat 1), (.neg 3), (.nat 2)]), (.tup 1 [(.nat 3), (.neg 13)]), (.tup 1 [(.neg 0)])]), ([(.tup 1 [(.neg 0), (.neg 0), (.nat 1)])], .l [(.tup 1 [(.neg 0), (.neg 0), (.nat 1)]), (.tup 1 [(.neg 0), (.nat 2)]), (.tup 1 [(.nat 1)])]), ([(.tup 1 [(.nat 1), (.nat 0), (.nat 2), (.nat 3), (.nat 3), (.nat 3), (.nat 1)])], .l [(.tup 1 [(.nat 1), (.nat 0), (.nat 2), (.nat 3), (.nat 3), (.nat 3), (.nat 1)]), (.tup 1 [(.nat 0), (.nat 4), (.nat 9), (.nat 12), (.nat 15), (.nat 6)]), (.tup 1 [(.neg 11), (.nat 4), (.neg 6), (.neg 5), (.nat 3)]), (.tup 1 [(.neg 26), (.nat 2), (.neg 15), (.neg 19)]), (.tup 1 [(.nat 66), (.nat 89), (.neg 1)]), (.tup 1 [(.nat 1197), (.nat 1639)]), (.tup 1 [(.nat 1)])]), ([(.tup 1 [(.nat 0), (.nat 1), (.nat 1), (.nat 2), (.nat 5), (.nat 6), (.nat 6), (.nat 4), (.nat 1)])], .l [(.tup 1 [(.nat 0), (.nat 1), (.nat 1), (.nat 2), (.nat 5), (.nat 6), (.nat 6), (.nat 4), (.nat 1)]), (.tup 1 [(.nat 1), (.nat 2), (.nat 6), (.nat 20), (.nat 30), (.nat 36), (.nat 28), (.nat 8)]), (.tup 1 [(.nat 1), (.neg 11), (.neg 5), (.nat 0), (.neg 9), (.nat 0), (.nat 4)]), (.tup 1 [(.nat 3), (.neg 41), (.neg 35), (.neg 15), (.neg 49), (.neg 27)]), (.tup 1 [(.neg 22), (.nat 84), (.nat 276), (.nat 104), (.neg 45)]), (.tup 1 [(.neg 160), (.nat 634), (.nat 2070), (.nat 1188)]), (.tup 1 [(.neg 144), (.nat 1520), (.nat 1506)]), (.tup 1 [(.nat 20083), (.nat 34018)]), (.tup 1 [(.nat 1)])]), ([(.tup 1 [(.neg 0), (.neg 0), (.neg 0), (.nat 1)])], .l [(.tup 1 [(.neg 0), (.neg 0), (.neg 0), (.nat 1)]), (.tup 1 [(.neg 0), (.neg 1), (.nat 3)]), (.tup 1 [(.nat 5), (.nat 4)]), (.tup 1 [(.neg 0)])]), ([(.tup 1 [(.nat 1), (.neg 0), (.neg 0), (.nat 1)])], .l [(.tup 1 [(.nat 1), (.neg 0), (.neg 0), (.nat 1)]), (.tup 1 [(.neg 0), (.neg 1), (.nat 3)]), (.tup 1 [(.neg 0), (.nat 1)])]), ([(.tup 1 [(.neg 0), (.nat 0), (.nat 1)])], .l [(.tup 1 [(.neg 0), (.nat 0), (.nat 1)]), (.tup 1 [(.nat 0), (.nat 2)]), (.tup 1 [(.nat 1)])]), ([(.tup 1 [(.nat 1), (.nat 1), (.nat 2), (.nat 5), (.nat 14), (.nat 26), (.nat 44), (.nat 69), (.nat 94), (.nat 114), (.nat 116), (.nat 94), (.nat 60), (.nat 28), (.nat 8), (.nat 1)])], .l [(.tup 1 [(.nat 1), (.nat 1), (.nat 2), (.nat 5), (.nat 14), (.nat 26), (.nat 44), (.nat 69), (.nat 94), (.nat 114), (.nat 116), (.nat 94), (.nat 60), (.nat 28), (.nat 8), (.nat 1)]), (.tup 1 [(.nat 1), (.nat 4), (.nat 15), (.nat 56), (.nat 130), (.nat 264), (.nat 483), (.nat 752), (.nat 1026), (.nat 1160), (.nat 1034), (.nat 720), (.nat 364), (.nat 112), (.nat 15)]), (.tup 1 [(.neg 216), (.neg 177), (.neg 269), (.neg 451), (.neg 1269), (.neg 1787), (.neg 2075), (.neg 2263), (.neg 1661), (.neg 979), (.neg 427), (.nat 120), (.nat 212), (.nat 56)]), (.tup 1 [(.neg 748), (.neg 827), (.neg 1145), (.neg 1999), (.neg 5237), (.neg 8247), (.neg 10483), (.neg 12335), (.neg 11397), (.neg 8959), (.neg 5987), (.neg 2495), (.neg 427)]), (.tup 1 [(.nat 963), (.nat 3174), (.nat 4179), (.nat 3886), (.nat 7560), (.nat 15496), (.nat 20358), (.nat 19468), (.nat 13126), (.nat 4244), (.neg 157), (.neg 275)]), (.tup 1 [(.nat 7155), (.nat 23460), (.nat 33393), (.nat 33412), (.nat 60648), (.nat 121720), (.nat 166794), (.nat 168568), (.nat 123622), (.nat 53168), (.nat 9382)]), (.tup 1 [(.nat 252671), (.nat 303918), (.nat 313200), (.nat 321608), (.nat 1263004), (.nat 2223800), (.nat 2447292), (.nat 2054152), (.nat 1022678), (.nat 202612)]), (.tup 1 [(.nat 43725), (.neg 1418283), (.neg 4819919), (.neg 4515831), (.neg 4440939), (.nat 261744), (.nat 2979596), (.nat 1718624), (.nat 389490)]), (.tup 1 [(.neg 440174), (.neg 1385125), (.neg 4883594), (.neg 7983097), (.neg 9384529), (.neg 8217683), (.neg 2451790), (.nat 117346)]), (.tup 1 [(.neg 6719970), (.neg 21128927), (.neg 74427384), (.neg 123853579), (.neg 147104633), (.neg 131010095), (.neg 42878856)]), (.tup 1 [(.neg 9874572), (.nat 713562642), (.nat 2417514986), (.nat 2643367372), (.nat 3131593238), (.nat 1286618196)]), (.tup 1 [(.nat 152744290193), (.nat 147375854952), (.nat 12863151218), (.neg 252682725055), (.neg 128853924069)]), (.tup 1 [(.neg 1019444081700), (.neg 4205006389693), (.neg 5659469103920), (.neg 2261699827437)]), (.tup 1 [(.neg 74745358933978), (.neg 46691296294311), (.neg 47998150758580)]), (.tup 1 [(.neg 3934199175089276), (.neg 2416016202276493)]), (.tup 1 [(.nat 1)])]), ([(.tup 1 [(.nat 0), (.nat 1), (.nat 1), (.nat 2), (.nat 5), (.nat 14), (.nat 26), (.nat 44), (.nat 69), (.nat 94), (.nat 114), (.nat 116), (.nat 94), (.nat 60), (.nat 28), (.nat 8), (.nat 1)])], .l [(.tup 1 [(.nat 0), (.nat 1), (.nat 1), (.nat 2), (.nat 5), (.nat 14), (.nat 26), (.nat 44), (.nat 69), (.nat 94), (.nat 114), (.nat 116), (.nat 94), (.nat 60), (.nat 28), (.nat 8), (.nat 1)]), (.tup 1 [(.nat 1), (.nat 2), (.nat 6), (.nat 20), (.nat 70), (.nat 156), (.nat 308), (.nat 552), (.nat 846), (.nat 1140), (.nat 1276), (.nat 1128), (.nat 780), (.nat 392), (.nat 120), (.nat 16)]), (.tup 1 [(.nat 1), (.neg 27), (.neg 21), (.neg 31), (.neg 49), (.neg 151), (.neg 211), (.neg 239), (.neg 257), (.neg 175), (.neg 91), (.neg 31), (.nat 28), (.nat 32), (.nat 8)]), (.tup 1 [(.nat 3), (.neg 97), (.neg 107), (.neg 143), (.neg 241), (.neg 659), (.neg 1047), (.neg 1327), (.neg 1565), (.neg 1443), (.neg 1135), (.neg 767), (.neg 323), (.neg 55)]), (.tup 1 [(.neg 22), (.nat 252), (.nat 828), (.nat 1048), (.nat 866), (.nat 1784), (.nat 3816), (.nat 4992), (.nat 4726), (.nat 3072), (.nat 832), (.neg 159), (.neg 91)]), (.tup 1 [(.neg 160), (.nat 1902), (.nat 6210), (.nat 8716), (.nat 8132), (.nat 15064), (.nat 31128), (.nat 43040), (.nat 43846), (.nat 32084), (.nat 13644), (.nat 2376)]), (.tup 1 [(.neg 144), (.nat 3636), (.nat 4518), (.nat 4640), (.nat 4228), (.nat 17504), (.nat 31560), (.nat 35152), (.nat 29942), (.nat 15088), (.nat 3012)]), (.tup 1 [(.nat 20083), (.nat 22494), (.neg 189755), (.neg 642655), (.neg 527595), (.neg 418039), (.nat 242592), (.nat 568880), (.nat 312310), (.nat 68036)]), (.tup 1 [(.nat 58673), (.neg 264155), (.neg 798395), (.neg 2830039), (.neg 4814755), (.neg 5512111), (.neg 5166687), (.neg 1571695), (.nat 117346)]), (.tup 1 [(.nat 880095), (.neg 4079685), (.neg 12327977), (.neg 43624059), (.neg 76328449), (.neg 89018363), (.neg 85245155), (.neg 29677431)]), (.tup 1 [(.neg 931510), (.neg 773191), (.nat 9742966), (.nat 32891568), (.nat 35151962), (.nat 39879328), (.nat 16201756)]), (.tup 1 [(.neg 28286784), (.nat 1007092586), (.nat 1013707704), (.nat 160837296), (.neg 1641970341), (.neg 852693139)]), (.tup 1 [(.nat 34349118135), (.neg 251867715975), (.neg 1104099622543), (.neg 1515104427455), (.neg 605366219757)]), (.tup 1 [(.nat 9607304143), (.neg 20000458364981), (.neg 12491396245833), (.neg 12847259096091)]), (.tup 1 [(.neg 15158301870024), (.neg 535983242799231), (.neg 332911602720653)]), (.tup 1 [(.nat 488061069652691), (.nat 43788049185016274)]), (.tup 1 [(.nat 1)])]), ([(.tup 1 [(.nat 1), (.neg 0), (.neg 0), (.neg 0), (.nat 1)])], .l [(.tup 1 [(.nat 1), (.neg 0), (.neg 0), (.neg 0), (.nat 1)]), (.tup 1 [(.neg 0), (.neg 1), (.neg 2), (.nat 4)]), (.tup 1 [(.neg 14), (.nat 14), (.nat 11)]), (.tup 1 [(.nat 7), (.neg 7)]), (.tup 1 [(.neg 0)])]), ([(.tup 1 [(.neg 0), (.nat 1), (.neg 0), (.neg 0), (.nat 1)])], .l [(.tup 1 [(.neg 0), (.nat 1), (.neg 0), (.neg 0), (.nat 1)]), (.tup 1 [(.nat 1), (.neg 1), (.neg 2), (.nat 4)]), (.tup 1 [(.nat 15), (.neg 9), (.nat 11)]), (.tup 1 [(.neg 0), (.nat 52)]), (.tup 1 [(.neg 0)])]), ([(.tup 1 [(.neg 0), (.neg 0), (.neg 0), (.neg 0), (.nat 1)])], .l [(.tup 1 [(.neg 0), (.neg 0), (.neg 0), (.neg 0), (.nat 1)]), (.tup 1 [(.neg 0), (.neg 1), (.neg 2), (.nat 4)]), (.tup 1 [(.nat 17), (.nat 14), (.nat 11)]), (.tup 1 [(.neg 86), (.neg 15)]), (.tup 1 [(.neg 0)])])]
def t_chain_of : Tb := t_chain_of_0
def f_chain_of : MF := memF t_chain_of f0_chain_of
theorem u_chain_of_0 : tOk f0_chain_of t_chain_of_0 = true := by decide +kernel
theorem u_chain_of : TbOk f0_chain_of t_chain_of := tOk_true u_chain_of_0
theorem ok_chain_of (Z : Fx K mg) (D0 : Dx K mg "chain_of" 68) (C_rest_against : Cl P w K mg base 2 "rest_against" 2 f_rest_against) (C_derived : Cl P w K mg base 2 "derived" 1 f_derived) : Cl P w K mg base 3 "chain_of" 1 f_chain_of := by
  refine cl_mem ?_ u_chain_of
  obtain ⟨f, fd, F, hm⟩ := D0.ex
  refine ⟨f, fd, ["one"], fn_ok F S_chain_of rfl rfl fun cdv A outer s H E hr => ?_, hm, F.kp, F.bindsN fun _ _ _ _ _ _ us hl => match us, hl with | [_], _ => rfl⟩
  have hu := hu_of hr
  exact (SC (sV 1 S_chain_of.nd (lS (aC (vL 0) (aC (kL C_derived hr (aC (vL 0) a0) (by decide)) a0)))) (SC (sL 100000 PassesOwn.never (wT (wA (qNe hu (ix hu (vL 1) (uNeg cN)) (tU a0)) (wA1 (qGt (b1 call_len_seq len_ok boot_len Z.b_len (ix hu (vL 1) (uNeg cN))) cN)))) (SC (sEx (mT mt_append ap_ok PySem.F.slot_list_append PySem.F.type_list_append (vL 1) (aC (kL C_rest_against hr (aC (ix hu (vL 1) (uNeg cN)) (aC (ix hu (vL 1) (uNeg cN)) a0)) (by decide)) a0))) S0)) (SC (sR (lc1 [("own", 2)] S_chain_of.nd (iQ (vL 1)) (fun _ _ _ _ _ => (gL 2 S_chain_of.nd)) (fun _ _ _ _ _ => (qNe hu (vL 2) (tU a0))) (fun _ _ _ _ _ => (vL 2)))) S0)))
theorem S_sign_by : FnScope ["one", "point", "above", "below", "found", "lift", "number"] ["one", "point"] (defScope (top 69)) := ⟨rfl, rfl, rfl, by decide +kernel, rfl, by decide +kernel, by decide +kernel⟩
theorem ok_sign_by (Z : Fx K mg) (D0 : Dx K mg "sign_by" 69)  : Cl P w K mg base 1 "sign_by" 2 f_sign_by := by
  refine cl_fst ?_ ok_F_sign_by
  obtain ⟨f, fd, F, hm⟩ := D0.ex
  refine ⟨f, fd, ["one", "point"], fn_ok F S_sign_by rfl rfl fun cdv A outer s H E hr => ?_, hm, F.kp, F.bindsN fun _ _ _ _ _ _ us hl => match us, hl with | [_, _], _ => rfl⟩
  have hu := hu_of hr
  exact (SC (sA (vL 1) (gT (gS (gL 2 S_sign_by.nd) (gS (gL 3 S_sign_by.nd) g0)))) (SC (sA (tU (aC cN (aC cN a0))) (gT (gS (gL 4 S_sign_by.nd) (gS (gL 5 S_sign_by.nd) g0)))) (SC (sF PassesOwn.never (iQ (rV (vL 0))) (gL 6 S_sign_by.nd) (SC (sV 4 S_sign_by.nd (bAdd (bMul (vL 4) (vL 2)) (bMul (vL 6) (vL 5)))) (SC (sV 5 S_sign_by.nd (bMul (vL 5) (vL 3))) S0))) (SC (sR (ok_if (qEq hu (vL 4) cN) cN (ok_if (qGt (vL 4) cN) cN (uNeg cN)))) S0))))
theorem S_changes_at : FnScope ["chain", "point", "signs", "own", "one", "k"] ["chain", "point"] (defScope (top 70)) := ⟨rfl, rfl, rfl, by decide +kernel, rfl, by decide +kernel, by decide +kernel⟩
def c_changes_at : MS := (sSeq (sSet 2 (eLc (iSeq (eLc (iSeq (eVar 0)) (gNm 4) (bd0 (eCall f_sign_by (aCons (eVar 4) (aCons (eVar 1) aNil)))) [4])) (gNm 3) (bd1 (t2 neH (eVar 3) (eCst (.nat 0))) (eVar 3)) [3])) (sSeq (sRet (o1 lenD (eLc (iRg1 (o2 subD (o1 lenD (eVar 2)) (eCst (.nat 1)))) (gNm 5) (bd1 (t2 neH (o2 ixG (eVar 2) (eVar 5)) (o2 ixG (eVar 2) (o2 addD (eVar 5) (eCst (.nat 1))))) (eVar 5)) [5]))) sNil))
def f_changes_at : MF := mkF (unks 4) c_changes_at
theorem ok_changes_at (Z : Fx K mg) (D0 : Dx K mg "changes_at" 70) (C_sign_by : Cl P w K mg base 1 "sign_by" 2 f_sign_by) : Cl P w K mg base 2 "changes_at" 2 f_changes_at := by
  obtain ⟨f, fd, F, hm⟩ := D0.ex
  refine ⟨f, fd, ["chain", "point"], fn_ok F S_changes_at rfl rfl fun cdv A outer s H E hr => ?_, hm, F.kp, F.bindsN fun _ _ _ _ _ _ us hl => match us, hl with | [_, _], _ => rfl⟩
  have hu := hu_of hr
  exact (SC (sW 2 S_changes_at.nd (lc1 [("own", 3)] S_changes_at.nd (iQ (lc0 [("one", 4)] S_changes_at.nd (iQ (vL 0)) (fun _ _ _ _ _ => (gL 4 S_changes_at.nd)) (fun _ _ _ _ _ => (kL C_sign_by hr (aC (vL 4) (aC (vC 1) a0)) (by decide))))) (fun _ _ _ _ _ => (gL 3 S_changes_at.nd)) (fun _ _ _ _ _ => (qNe hu (vL 3) cN)) (fun _ _ _ _ _ => (vL 3)))) (SC (sR (b1 call_len_seq len_ok boot_len Z.b_len (lc1 [("k", 5)] S_changes_at.nd (iR1 Z.b_range (bSub (b1 call_len_seq len_ok boot_len Z.b_len (vC 2)) cN)) (fun _ _ _ _ _ => (gL 5 S_changes_at.nd)) (fun _ _ _ _ _ => (qNe hu (ix hu (vC 2) (vL 5)) (ix hu (vC 2) (bAdd (vL 5) cN)))) (fun _ _ _ _ _ => (vL 5))))) S0))
theorem S_roots_by : FnScope ["chain", "low", "high"] ["chain", "low", "high"] (defScope (top 71)) := ⟨rfl, rfl, rfl, by decide +kernel, rfl, by decide +kernel, by decide +kernel⟩
def c_roots_by : MS := (sSeq (sRet (o2 subD (eCall f_changes_at (aCons (eVar 0) (aCons (eVar 1) aNil))) (eCall f_changes_at (aCons (eVar 0) (aCons (eVar 2) aNil))))) sNil)
def f_roots_by : MF := mkF (unks 0) c_roots_by
theorem ok_roots_by (Z : Fx K mg) (D0 : Dx K mg "roots_by" 71) (C_changes_at : Cl P w K mg base 2 "changes_at" 2 f_changes_at) : Cl P w K mg base 3 "roots_by" 3 f_roots_by := by
  obtain ⟨f, fd, F, hm⟩ := D0.ex
  refine ⟨f, fd, ["chain", "low", "high"], fn_ok F S_roots_by rfl rfl fun cdv A outer s H E hr => ?_, hm, F.kp, F.bindsN fun _ _ _ _ _ _ us hl => match us, hl with | [_, _, _], _ => rfl⟩
  have hu := hu_of hr
  exact (SC (sR (bSub (kL C_changes_at hr (aC (vL 0) (aC (vL 1) a0)) (by decide)) (kL C_changes_at hr (aC (vL 0) (aC (vL 2) a0)) (by decide)))) S0)
theorem S_loop_by : FnScope ["many", "found", "lap"] ["many"] (defScope (top 72)) := ⟨rfl, rfl, rfl, by decide +kernel, rfl, by decide +kernel, by decide +kernel⟩
def c_loop_by : MS := (sSeq (sSet 1 (eTup (aCons (eCst (.nat 0)) (aCons (eCst (.nat 1)) aNil)))) (sSeq (sFor (iRg1 (o2 subD (eVar 0) (eCst (.nat 1)))) (gNm 2) (sSeq (sSet 1 (eCall f_summed (aCons (eCall f_multiplied (aCons (eVar 1) (aCons (eVar 1) aNil))) (aCons (eTup (aCons (eCst (.nat 0)) (aCons (eCst (.nat 1)) aNil))) aNil)))) sNil)) (sSeq (sRet (eVar 1)) sNil)))
def f0_loop_by : MF := mkF (unks 2) c_loop_by
def t_loop_by_0 : Tb := [([(.nat 2)], .p (.tup 1 [(.nat 0), (.nat 1), (.nat 1)])), ([(.nat 1)], .p (.tup 1 [(.nat 0), (.nat 1)])), ([(.nat 3)], .p (.tup 1 [(.nat 0), (.nat 1), (.nat 1), (.nat 2), (.nat 1)])), ([(.nat 4)], .p (.tup 1 [(.nat 0), (.nat 1), (.nat 1), (.nat 2), (.nat 5), (.nat 6), (.nat 6), (.nat 4), (.nat 1)])), ([(.nat 5)], .p (.tup 1 [(.nat 0), (.nat 1), (.nat 1), (.nat 2), (.nat 5), (.nat 14), (.nat 26), (.nat 44), (.nat 69), (.nat 94), (.nat 114), (.nat 116), (.nat 94), (.nat 60), (.nat 28), (.nat 8), (.nat 1)]))]
def t_loop_by : Tb := t_loop_by_0
def f_loop_by : MF := memF t_loop_by f0_loop_by
theorem u_loop_by_0 : tOk f0_loop_by t_loop_by_0 = true := by decide +kernel
theorem u_loop_by : TbOk f0_loop_by t_loop_by := tOk_true u_loop_by_0
theorem ok_loop_by (Z : Fx K mg) (D0 : Dx K mg "loop_by" 72) (C_multiplied : Cl P w K mg base 2 "multiplied" 2 f_multiplied) (C_summed : Cl P w K mg base 2 "summed" 2 f_summed) : Cl P w K mg base 3 "loop_by" 1 f_loop_by := by
  refine cl_mem ?_ u_loop_by
  obtain ⟨f, fd, F, hm⟩ := D0.ex
  refine ⟨f, fd, ["many"], fn_ok F S_loop_by rfl rfl fun cdv A outer s H E hr => ?_, hm, F.kp, F.bindsN fun _ _ _ _ _ _ us hl => match us, hl with | [_], _ => rfl⟩
  have hu := hu_of hr
  exact (SC (sV 1 S_loop_by.nd (tU (aC cN (aC cN a0)))) (SC (sF PassesOwn.never (iR1 Z.b_range (bSub (vL 0) cN)) (gL 2 S_loop_by.nd) (SC (sV 1 S_loop_by.nd (kL C_summed hr (aC (kL C_multiplied hr (aC (vL 1) (aC (vL 1) a0)) (by decide)) (aC (tU (aC cN (aC cN a0))) a0)) (by decide))) S0)) (SC (sR (vL 1)) S0)))
theorem S_own_by : FnScope ["many", "found", "step"] ["many"] (defScope (top 73)) := ⟨rfl, rfl, rfl, by decide +kernel, rfl, by decide +kernel, by decide +kernel⟩
def c_own_by (self : MF) : MS := (sSeq (sSet 1 (eCall f_loop_by (aCons (eVar 0) aNil))) (sSeq (sFor (iSeq (eSl (eCall f_divisors_of (aCons (eVar 0) aNil)) oNone (oSome (o1 negD (eCst (.nat 1)))))) (gNm 2) (sSeq (sSet 1 (o2 ixG (eCall f_divided (aCons (eVar 1) (aCons (eCall self (aCons (eVar 2) aNil)) aNil))) (eCst (.nat 0)))) sNil)) (sSeq (sRet (eVar 1)) sNil)))
def f_own_by (n : Nat) : MF := @Nat.rec (fun _ => MF) (fun _ _ _ => false) (fun _ ih => mkF (unks 2) (c_own_by ih)) n
theorem ok_own_by (Z : Fx K mg) (D0 : Dx K mg "own_by" 73) (C_divisors_of : Cl P w K mg base 1 "divisors_of" 1 f_divisors_of) (C_divided : Cl P w K mg base 2 "divided" 2 f_divided) (C_loop_by : Cl P w K mg base 3 "loop_by" 1 f_loop_by) : ∀ n : Nat, Cl P w K mg base (3 + n + 1) "own_by" 1 (f_own_by n)
  | 0 => by
    obtain ⟨f, fd, F, hm⟩ := D0.ex
    exact ⟨f, fd, ["many"], fn_false F S_own_by rfl, hm, F.kp, F.bindsN fun _ _ _ _ _ _ us hl => match us, hl with | [_], _ => rfl⟩
  | n + 1 => by
    have C_self := ok_own_by Z D0 C_divisors_of C_divided C_loop_by n
    obtain ⟨f, fd, F, hm⟩ := D0.ex
    show Cl P w K mg base (3 + (n + 1) + 1) "own_by" 1 (mkF (unks 2) (c_own_by (f_own_by n)))
    refine ⟨f, fd, ["many"], fn_ok F S_own_by rfl rfl fun cdv A outer s H E hr => ?_, hm, F.kp, F.bindsN fun _ _ _ _ _ _ us hl => match us, hl with | [_], _ => rfl⟩
    have hu := hu_of hr
    have hk_self : 3 + n + 1 ≤ 3 + (n + 1) := Nat.le_refl _
    exact (SC (sV 1 S_own_by.nd (kL C_loop_by hr (aC (vL 0) a0) (Nat.le_trans (by decide) (Nat.le_add_right 3 (n + 1))))) (SC (sF PassesOwn.never (iQ (sl (kL C_divisors_of hr (aC (vL 0) a0) (Nat.le_trans (by decide) (Nat.le_add_right 3 (n + 1)))) s0 (s1 (uNeg cN)))) (gL 2 S_own_by.nd) (SC (sV 1 S_own_by.nd (ix hu (kL C_divided hr (aC (vL 1) (aC (kL C_self hr (aC (vL 2) a0) hk_self) a0)) (Nat.le_trans (by decide) (Nat.le_add_right 3 (n + 1)))) cN)) S0)) (SC (sR (vL 1)) S0)))
theorem S_is_poly : FnScope ["thing"] ["thing"] (defScope (top 74)) := ⟨rfl, rfl, rfl, by decide +kernel, rfl, by decide +kernel, by decide +kernel⟩
def c_is_poly : MS := (sSeq (sRet (eAnd (eCall f_are_numbers (aCons (eVar 0) aNil)) (eAnd (eT (t2 leD (o1 lenD (eVar 0)) (eCst (.nat 200)))) (eOr (eT (t2 eqH (eVar 0) (eTup aNil))) (eT (t2 neH (o2 ixG (eVar 0) (o1 negD (eCst (.nat 1)))) (eCst (.nat 0)))))))) sNil)
def f_is_poly : MF := mkF (unks 0) c_is_poly
theorem ok_is_poly (Z : Fx K mg) (D0 : Dx K mg "is_poly" 74) (C_are_numbers : Cl P w K mg base 2 "are_numbers" 1 f_are_numbers) : Cl P w K mg base 3 "is_poly" 1 f_is_poly := by
  obtain ⟨f, fd, F, hm⟩ := D0.ex
  refine ⟨f, fd, ["thing"], fn_ok F S_is_poly rfl rfl fun cdv A outer s H E hr => ?_, hm, F.kp, F.bindsN fun _ _ _ _ _ _ us hl => match us, hl with | [_], _ => rfl⟩
  have hu := hu_of hr
  exact (SC (sR (ok_eAnd (kL C_are_numbers hr (aC (vL 0) a0) (by decide)) (ok_eAnd (eLe (b1 call_len_seq len_ok boot_len Z.b_len (vL 0)) cN) (pe_one (ok_eOr (eEq hu (vL 0) (tU a0)) (pe_one (eNe hu (ix hu (vL 0) (uNeg cN)) cN))))))) S0)
theorem S_sure_poly : FnScope ["thing", "poly"] ["thing"] (defScope (top 75)) := ⟨rfl, rfl, rfl, by decide +kernel, rfl, by decide +kernel, by decide +kernel⟩
def c_sure_poly : MS := (sSeq (sSet 1 (eCall (f_tupled 14) (aCons (eVar 0) aNil))) (sSeq (sIf (tNot (tE (eCall f_is_poly (aCons (eVar 1) aNil)))) (sSeq sNever sNil) sNil) (sSeq (sRet (eVar 1)) sNil)))
def f0_sure_poly : MF := mkF (unks 1) c_sure_poly
def t_sure_poly_0 : Tb := [([(.tup 1 [(.nat 1), (.nat 1)])], .p (.tup 1 [(.nat 1), (.nat 1)])), ([(.tup 1 [(.nat 0), (.nat 1), (.nat 1)])], .p (.tup 1 [(.nat 0), (.nat 1), (.nat 1)])), ([(.tup 1 [(.nat 0), (.nat 1)])], .p (.tup 1 [(.nat 0), (.nat 1)])), ([(.tup 1 [(.nat 1), (.nat 1), (.nat 2), (.nat 1)])], .p (.tup 1 [(.nat 1), (.nat 1), (.nat 2), (.nat 1)])), ([(.tup 1 [(.nat 0), (.nat 1), (.nat 1), (.nat 2), (.nat 1)])], .p (.tup 1 [(.nat 0), (.nat 1), (.nat 1), (.nat 2), (.nat 1)])), ([(.tup 1 [(.nat 1), (.nat 0), (.nat 2), (.nat 3), (.nat 3), (.nat 3), (.nat 1)])], .p (.tup 1 [(.nat 1), (.nat 0), (.nat 2), (.nat 3), (.nat 3), (.nat 3), (.nat 1)])), ([(.tup 1 [(.nat 0), (.nat 1), (.nat 1), (.nat 2), (.nat 5), (.nat 6), (.nat 6), (.nat 4), (.nat 1)])], .p (.tup 1 [(.nat 0), (.nat 1), (.nat 1), (.nat 2), (.nat 5), (.nat 6), (.nat 6), (.nat 4), (.nat 1)])), ([(.tup 1 [(.nat 1), (.nat 1), (.nat 2), (.nat 5), (.nat 14), (.nat 26), (.nat 44), (.nat 69), (.nat 94), (.nat 114), (.nat 116), (.nat 94), (.nat 60), (.nat 28), (.nat 8), (.nat 1)])], .p (.tup 1 [(.nat 1), (.nat 1), (.nat 2), (.nat 5), (.nat 14), (.nat 26), (.nat 44), (.nat 69), (.nat 94), (.nat 114), (.nat 116), (.nat 94), (.nat 60), (.nat 28), (.nat 8), (.nat 1)])), ([(.tup 1 [(.nat 0), (.nat 1), (.nat 1), (.nat 2), (.nat 5), (.nat 14), (.nat 26), (.nat 44), (.nat 69), (.nat 94), (.nat 114), (.nat 116), (.nat 94), (.nat 60), (.nat 28), (.nat 8), (.nat 1)])], .p (.tup 1 [(.nat 0), (.nat 1), (.nat 1), (.nat 2), (.nat 5), (.nat 14), (.nat 26), (.nat 44), (.nat 69), (.nat 94), (.nat 114), (.nat 116), (.nat 94), (.nat 60), (.nat 28), (.nat 8), (.nat 1)]))]
def t_sure_poly : Tb := t_sure_poly_0
def f_sure_poly : MF := memF t_sure_poly f0_sure_poly
theorem u_sure_poly_0 : tOk f0_sure_poly t_sure_poly_0 = true := by decide +kernel
theorem u_sure_poly : TbOk f0_sure_poly t_sure_poly := tOk_true u_sure_poly_0
theorem ok_sure_poly (Z : Fx K mg) (D0 : Dx K mg "sure_poly" 75) (C_is_poly : Cl P w K mg base 3 "is_poly" 1 f_is_poly) (C_tupled : Cl P w K mg base 15 "tupled" 1 (f_tupled 14)) : Cl P w K mg base 16 "sure_poly" 1 f_sure_poly := by
  refine cl_mem ?_ u_sure_poly
  obtain ⟨f, fd, F, hm⟩ := D0.ex
  refine ⟨f, fd, ["thing"], fn_ok F S_sure_poly rfl rfl fun cdv A outer s H E hr => ?_, hm, F.kp, F.bindsN fun _ _ _ _ _ _ us hl => match us, hl with | [_], _ => rfl⟩
  have hu := hu_of hr
  exact (SC (sV 1 S_sure_poly.nd (kL C_tupled hr (aC (vL 0) a0) (by decide))) (SC (sI (qNot (qE (kL C_is_poly hr (aC (vL 1) a0) (by decide)))) (SC SX S0) S0) (SC (sR (vL 1)) S0)))
theorem S_sure_turning_poly : FnScope ["thing", "poly"] ["thing"] (defScope (top 76)) := ⟨rfl, rfl, rfl, by decide +kernel, rfl, by decide +kernel, by decide +kernel⟩
def c_sure_turning_poly : MS := (sSeq (sSet 1 (eCall f_sure_poly (aCons (eVar 0) aNil))) (sSeq (sIf (t2 ltD (o1 lenD (eVar 1)) (eCst (.nat 2))) (sSeq sNever sNil) sNil) (sSeq (sRet (eVar 1)) sNil)))
def f0_sure_turning_poly : MF := mkF (unks 1) c_sure_turning_poly
def t_sure_turning_poly_0 : Tb := [([(.tup 1 [(.nat 1), (.nat 1)])], .p (.tup 1 [(.nat 1), (.nat 1)])), ([(.tup 1 [(.nat 0), (.nat 1), (.nat 1)])], .p (.tup 1 [(.nat 0), (.nat 1), (.nat 1)])), ([(.tup 1 [(.nat 0), (.nat 1)])], .p (.tup 1 [(.nat 0), (.nat 1)])), ([(.tup 1 [(.nat 1), (.nat 1), (.nat 2), (.nat 1)])], .p (.tup 1 [(.nat 1), (.nat 1), (.nat 2), (.nat 1)])), ([(.tup 1 [(.nat 0), (.nat 1), (.nat 1), (.nat 2), (.nat 1)])], .p (.tup 1 [(.nat 0), (.nat 1), (.nat 1), (.nat 2), (.nat 1)])), ([(.tup 1 [(.nat 1), (.nat 0), (.nat 2), (.nat 3), (.nat 3), (.nat 3), (.nat 1)])], .p (.tup 1 [(.nat 1), (.nat 0), (.nat 2), (.nat 3), (.nat 3), (.nat 3), (.nat 1)])), ([(.tup 1 [(.nat 0), (.nat 1), (.nat 1), (.nat 2), (.nat 5), (.nat 6), (.nat 6), (.nat 4), (.nat 1)])], .p (.tup 1 [(.nat 0), (.nat 1), (.nat 1), (.nat 2), (.nat 5), (.nat 6), (.nat 6), (.nat 4), (.nat 1)])), ([(.tup 1 [(.nat 1), (.nat 1), (.nat 2), (.nat 5), (.nat 14), (.nat 26), (.nat 44), (.nat 69), (.nat 94), (.nat 114), (.nat 116), (.nat 94), (.nat 60), (.nat 28), (.nat 8), (.nat 1)])], .p (.tup 1 [(.nat 1), (.nat 1), (.nat 2), (.nat 5), (.nat 14), (.nat 26), (.nat 44), (.nat 69), (.nat 94), (.nat 114), (.nat 116), (.nat 94), (.nat 60), (.nat 28), (.nat 8), (.nat 1)])), ([(.tup 1 [(.nat 0), (.nat 1), (.nat 1), (.nat 2), (.nat 5), (.nat 14), (.nat 26), (.nat 44), (.nat 69), (.nat 94), (.nat 114), (.nat 116), (.nat 94), (.nat 60), (.nat 28), (.nat 8), (.nat 1)])], .p (.tup 1 [(.nat 0), (.nat 1), (.nat 1), (.nat 2), (.nat 5), (.nat 14), (.nat 26), (.nat 44), (.nat 69), (.nat 94), (.nat 114), (.nat 116), (.nat 94), (.nat 60), (.nat 28), (.nat 8), (.nat 1)]))]
def t_sure_turning_poly : Tb := t_sure_turning_poly_0
def f_sure_turning_poly : MF := memF t_sure_turning_poly f0_sure_turning_poly
theorem u_sure_turning_poly_0 : tOk f0_sure_turning_poly t_sure_turning_poly_0 = true := by decide +kernel
theorem u_sure_turning_poly : TbOk f0_sure_turning_poly t_sure_turning_poly := tOk_true u_sure_turning_poly_0
theorem ok_sure_turning_poly (Z : Fx K mg) (D0 : Dx K mg "sure_turning_poly" 76) (C_sure_poly : Cl P w K mg base 16 "sure_poly" 1 f_sure_poly) : Cl P w K mg base 17 "sure_turning_poly" 1 f_sure_turning_poly := by
  refine cl_mem ?_ u_sure_turning_poly
  obtain ⟨f, fd, F, hm⟩ := D0.ex
  refine ⟨f, fd, ["thing"], fn_ok F S_sure_turning_poly rfl rfl fun cdv A outer s H E hr => ?_, hm, F.kp, F.bindsN fun _ _ _ _ _ _ us hl => match us, hl with | [_], _ => rfl⟩
  have hu := hu_of hr
  exact (SC (sV 1 S_sure_turning_poly.nd (kL C_sure_poly hr (aC (vL 0) a0) (by decide))) (SC (sI (qLt (b1 call_len_seq len_ok boot_len Z.b_len (vL 1)) cN) (SC SX S0) S0) (SC (sR (vL 1)) S0)))
theorem S_sure_fraction : FnScope ["thing", "fraction"] ["thing"] (defScope (top 77)) := ⟨rfl, rfl, rfl, by decide +kernel, rfl, by decide +kernel, by decide +kernel⟩
def c_sure_fraction : MS := (sSeq (sSet 1 (eCall (f_tupled 14) (aCons (eVar 0) aNil))) (sSeq (sIf (tNot (tE (eCall f_is_fraction (aCons (eVar 1) aNil)))) (sSeq sNever sNil) sNil) (sSeq (sRet (eVar 1)) sNil)))
def f_sure_fraction : MF := mkF (unks 1) c_sure_fraction
theorem ok_sure_fraction (Z : Fx K mg) (D0 : Dx K mg "sure_fraction" 77) (C_is_fraction : Cl P w K mg base 3 "is_fraction" 1 f_is_fraction) (C_tupled : Cl P w K mg base 15 "tupled" 1 (f_tupled 14)) : Cl P w K mg base 16 "sure_fraction" 1 f_sure_fraction := by
  obtain ⟨f, fd, F, hm⟩ := D0.ex
  refine ⟨f, fd, ["thing"], fn_ok F S_sure_fraction rfl rfl fun cdv A outer s H E hr => ?_, hm, F.kp, F.bindsN fun _ _ _ _ _ _ us hl => match us, hl with | [_], _ => rfl⟩
  have hu := hu_of hr
  exact (SC (sV 1 S_sure_fraction.nd (kL C_tupled hr (aC (vL 0) a0) (by decide))) (SC (sI (qNot (qE (kL C_is_fraction hr (aC (vL 1) a0) (by decide)))) (SC SX S0) S0) (SC (sR (vL 1)) S0)))
theorem S_loop_poly : FnScope ["many"] ["many"] (defScope (top 78)) := ⟨rfl, rfl, rfl, by decide +kernel, rfl, by decide +kernel, by decide +kernel⟩
def c_loop_poly : MS := (sSeq (sIf (tNot (tE (eCall f_is_within (aCons (eVar 0) (aCons (eCst (.nat 1)) (aCons (eCst (.nat 8)) aNil)))))) (sSeq sNever sNil) sNil) (sSeq (sRet (eCall f_loop_by (aCons (eVar 0) aNil))) sNil))
def f0_loop_poly : MF := mkF (unks 0) c_loop_poly
def t_loop_poly_0 : Tb := [([(.nat 2)], .p (.tup 1 [(.nat 0), (.nat 1), (.nat 1)])), ([(.nat 3)], .p (.tup 1 [(.nat 0), (.nat 1), (.nat 1), (.nat 2), (.nat 1)])), ([(.nat 4)], .p (.tup 1 [(.nat 0), (.nat 1), (.nat 1), (.nat 2), (.nat 5), (.nat 6), (.nat 6), (.nat 4), (.nat 1)])), ([(.nat 5)], .p (.tup 1 [(.nat 0), (.nat 1), (.nat 1), (.nat 2), (.nat 5), (.nat 14), (.nat 26), (.nat 44), (.nat 69), (.nat 94), (.nat 114), (.nat 116), (.nat 94), (.nat 60), (.nat 28), (.nat 8), (.nat 1)]))]
def t_loop_poly : Tb := t_loop_poly_0
def f_loop_poly : MF := memF t_loop_poly f0_loop_poly
theorem u_loop_poly_0 : tOk f0_loop_poly t_loop_poly_0 = true := by decide +kernel
theorem u_loop_poly : TbOk f0_loop_poly t_loop_poly := tOk_true u_loop_poly_0
theorem ok_loop_poly (Z : Fx K mg) (D0 : Dx K mg "loop_poly" 78) (C_loop_by : Cl P w K mg base 3 "loop_by" 1 f_loop_by) (C_is_within : Cl P w K mg base 2 "is_within" 3 f_is_within) : Cl P w K mg base 4 "loop_poly" 1 f_loop_poly := by
  refine cl_mem ?_ u_loop_poly
  obtain ⟨f, fd, F, hm⟩ := D0.ex
  refine ⟨f, fd, ["many"], fn_ok F S_loop_poly rfl rfl fun cdv A outer s H E hr => ?_, hm, F.kp, F.bindsN fun _ _ _ _ _ _ us hl => match us, hl with | [_], _ => rfl⟩
  have hu := hu_of hr
  exact (SC (sI (qNot (qE (kL C_is_within hr (aC (vL 0) (aC cN (aC (gI Z.i_LARGEST_polys) a0))) (by decide)))) (SC SX S0) S0) (SC (sR (kL C_loop_by hr (aC (vL 0) a0) (by decide))) S0))
theorem S_own_poly : FnScope ["many"] ["many"] (defScope (top 79)) := ⟨rfl, rfl, rfl, by decide +kernel, rfl, by decide +kernel, by decide +kernel⟩
def c_own_poly : MS := (sSeq (sIf (tNot (tE (eCall f_is_within (aCons (eVar 0) (aCons (eCst (.nat 1)) (aCons (eCst (.nat 8)) aNil)))))) (sSeq sNever sNil) sNil) (sSeq (sRet (eCall (f_own_by 14) (aCons (eVar 0) aNil))) sNil))
def f0_own_poly : MF := mkF (unks 0) c_own_poly
def t_own_poly_0 : Tb := [([(.nat 2)], .p (.tup 1 [(.nat 1), (.nat 1)])), ([(.nat 1)], .p (.tup 1 [(.nat 0), (.nat 1)])), ([(.nat 3)], .p (.tup 1 [(.nat 1), (.nat 1), (.nat 2), (.nat 1)])), ([(.nat 4)], .p (.tup 1 [(.nat 1), (.nat 0), (.nat 2), (.nat 3), (.nat 3), (.nat 3), (.nat 1)])), ([(.nat 5)], .p (.tup 1 [(.nat 1), (.nat 1), (.nat 2), (.nat 5), (.nat 14), (.nat 26), (.nat 44), (.nat 69), (.nat 94), (.nat 114), (.nat 116), (.nat 94), (.nat 60), (.nat 28), (.nat 8), (.nat 1)]))]
def t_own_poly : Tb := t_own_poly_0
def f_own_poly : MF := memF t_own_poly f0_own_poly
theorem u_own_poly_0 : tOk f0_own_poly t_own_poly_0 = true := by decide +kernel
theorem u_own_poly : TbOk f0_own_poly t_own_poly := tOk_true u_own_poly_0
theorem ok_own_poly (Z : Fx K mg) (D0 : Dx K mg "own_poly" 79) (C_own_by : Cl P w K mg base 18 "own_by" 1 (f_own_by 14)) (C_is_within : Cl P w K mg base 2 "is_within" 3 f_is_within) : Cl P w K mg base 19 "own_poly" 1 f_own_poly := by
  refine cl_mem ?_ u_own_poly
  obtain ⟨f, fd, F, hm⟩ := D0.ex
  refine ⟨f, fd, ["many"], fn_ok F S_own_poly rfl rfl fun cdv A outer s H E hr => ?_, hm, F.kp, F.bindsN fun _ _ _ _ _ _ us hl => match us, hl with | [_], _ => rfl⟩
  have hu := hu_of hr
  exact (SC (sI (qNot (qE (kL C_is_within hr (aC (vL 0) (aC cN (aC (gI Z.i_LARGEST_polys) a0))) (by decide)))) (SC SX S0) S0) (SC (sR (kL C_own_by hr (aC (vL 0) a0) (by decide))) S0))
theorem S_sign_of : FnScope ["poly", "point", "own"] ["poly", "point"] (defScope (top 80)) := ⟨rfl, rfl, rfl, by decide +kernel, rfl, by decide +kernel, by decide +kernel⟩
def c_sign_of : MS := (sSeq (sSet 2 (eCall f_sure_poly (aCons (eVar 0) aNil))) (sSeq (sRet (eCall f_sign_by (aCons (eVar 2) (aCons (eCall f_sure_fraction (aCons (eVar 1) aNil)) aNil)))) sNil))
def f0_sign_of : MF := mkF (unks 1) c_sign_of
def t_sign_of_0 : Tb := [([(.tup 1 [(.nat 1), (.nat 1)]), (.tup 1 [(.neg 576460752303423488), (.nat 576460752303423488)])], .p (.neg 0)), ([(.tup 1 [(.nat 1), (.nat 1)]), (.tup 1 [(.neg 0), (.nat 1)])], .p (.nat 0)), ([(.tup 1 [(.nat 1), (.nat 1), (.nat 2), (.nat 1)]), (.tup 1 [(.neg 1011618099685044628), (.nat 576460752303423488)])], .p (.neg 0)), ([(.tup 1 [(.nat 1), (.nat 1), (.nat 2), (.nat 1)]), (.tup 1 [(.neg 252904524921261156), (.nat 144115188075855872)])], .p (.nat 1)), ([(.tup 1 [(.nat 1), (.nat 0), (.nat 2), (.nat 3), (.nat 3), (.nat 3), (.nat 1)]), (.tup 1 [(.neg 3022274522684459746), (.nat 2305843009213693952)])], .p (.neg 0)), ([(.tup 1 [(.nat 1), (.nat 0), (.nat 2), (.nat 3), (.nat 3), (.nat 3), (.nat 1)]), (.tup 1 [(.neg 1511137261342229872), (.nat 1152921504606846976)])], .p (.nat 1)), ([(.tup 1 [(.nat 1), (.nat 0), (.nat 2), (.nat 3), (.nat 3), (.nat 3), (.nat 1)]), (.tup 1 [(.neg 2237589833084651074), (.nat 1152921504606846976)])], .p (.nat 1)), ([(.tup 1 [(.nat 1), (.nat 0), (.nat 2), (.nat 3), (.nat 3), (.nat 3), (.nat 1)]), (.tup 1 [(.neg 4475179666169302148), (.nat 2305843009213693952)])], .p (.neg 0)), ([(.tup 1 [(.nat 1), (.nat 1), (.nat 2), (.nat 5), (.nat 14), (.nat 26), (.nat 44), (.nat 69), (.nat 94), (.nat 114), (.nat 116), (.nat 94), (.nat 60), (.nat 28), (.nat 8), (.nat 1)]), (.tup 1 [(.neg 3747948875155558668), (.nat 2305843009213693952)])], .p (.neg 0)), ([(.tup 1 [(.nat 1), (.nat 1), (.nat 2), (.nat 5), (.nat 14), (.nat 26), (.nat 44), (.nat 69), (.nat 94), (.nat 114), (.nat 116), (.nat 94), (.nat 60), (.nat 28), (.nat 8), (.nat 1)]), (.tup 1 [(.neg 7495897750311117336), (.nat 4611686018427387904)])], .p (.nat 1)), ([(.tup 1 [(.nat 1), (.nat 1), (.nat 2), (.nat 5), (.nat 14), (.nat 26), (.nat 44), (.nat 69), (.nat 94), (.nat 114), (.nat 116), (.nat 94), (.nat 60), (.nat 28), (.nat 8), (.nat 1)]), (.tup 1 [(.neg 17162689481972359366), (.nat 9223372036854775808)])], .p (.nat 1)), ([(.tup 1 [(.nat 1), (.nat 1), (.nat 2), (.nat 5), (.nat 14), (.nat 26), (.nat 44), (.nat 69), (.nat 94), (.nat 114), (.nat 116), (.nat 94), (.nat 60), (.nat 28), (.nat 8), (.nat 1)]), (.tup 1 [(.neg 8581344740986179682), (.nat 4611686018427387904)])], .p (.neg 0)), ([(.tup 1 [(.nat 1), (.nat 1), (.nat 2), (.nat 5), (.nat 14), (.nat 26), (.nat 44), (.nat 69), (.nat 94), (.nat 114), (.nat 116), (.nat 94), (.nat 60), (.nat 28), (.nat 8), (.nat 1)]), (.tup 1 [(.neg 18312306536913437474), (.nat 9223372036854775808)])], .p (.neg 0)), ([(.tup 1 [(.nat 1), (.nat 1), (.nat 2), (.nat 5), (.nat 14), (.nat 26), (.nat 44), (.nat 69), (.nat 94), (.nat 114), (.nat 116), (.nat 94), (.nat 60), (.nat 28), (.nat 8), (.nat 1)]), (.tup 1 [(.neg 9156153268456718736), (.nat 4611686018427387904)])], .p (.nat 1))]
def t_sign_of : Tb := t_sign_of_0
def f_sign_of : MF := memF t_sign_of f0_sign_of
theorem u_sign_of_0 : tOk f0_sign_of t_sign_of_0 = true := by decide +kernel
theorem u_sign_of : TbOk f0_sign_of t_sign_of := tOk_true u_sign_of_0
theorem ok_sign_of (Z : Fx K mg) (D0 : Dx K mg "sign_of" 80) (C_sure_fraction : Cl P w K mg base 16 "sure_fraction" 1 f_sure_fraction) (C_sign_by : Cl P w K mg base 1 "sign_by" 2 f_sign_by) (C_sure_poly : Cl P w K mg base 16 "sure_poly" 1 f_sure_poly) : Cl P w K mg base 17 "sign_of" 2 f_sign_of := by
  refine cl_mem ?_ u_sign_of
  obtain ⟨f, fd, F, hm⟩ := D0.ex
  refine ⟨f, fd, ["poly", "point"], fn_ok F S_sign_of rfl rfl fun cdv A outer s H E hr => ?_, hm, F.kp, F.bindsN fun _ _ _ _ _ _ us hl => match us, hl with | [_, _], _ => rfl⟩
  have hu := hu_of hr
  exact (SC (sV 2 S_sign_of.nd (kL C_sure_poly hr (aC (vL 0) a0) (by decide))) (SC (sR (kL C_sign_by hr (aC (vL 2) (aC (kL C_sure_fraction hr (aC (vL 1) a0) (by decide)) a0)) (by decide))) S0))
theorem S_quotient : FnScope ["one", "other", "left", "found", "size", "lift", "top", "kept", "k", "number", "own"] ["one", "other"] (defScope (top 83)) := ⟨rfl, rfl, rfl, by decide +kernel, rfl, by decide +kernel, by decide +kernel⟩
def c_quotient : MS := (sSeq (sPar2 2 3 (aCons (eVar 0) (aCons (o2 mulD (eLst (aCons (eCst (.nat 0)) aNil)) (o2 addD (o2 subD (o1 lenD (eVar 0)) (o1 lenD (eVar 1))) (eCst (.nat 1)))) aNil))) (sSeq (sSet 4 (o1 absD (o2 ixG (eVar 1) (o1 negD (eCst (.nat 1)))))) (sSeq (sWh 100000 (t2 neH (eVar 2) (eTup aNil)) (sSeq (sSet 5 (o2 subD (o1 lenD (eVar 2)) (o1 lenD (eVar 1)))) (sSeq (sSet 2 (o1 tupleD (eLc (iSeq (eVar 2)) (gNm 10) (bd0 (o2 mulD (eVar 10) (eVar 4))) [10]))) (sSeq (sSet 3 (eLc (iSeq (eVar 3)) (gNm 10) (bd0 (o2 mulD (eVar 10) (eVar 4))) [10])) (sSeq (sSet 6 (o2 divD (o2 ixG (eVar 2) (o1 negD (eCst (.nat 1)))) (o2 ixG (eVar 1) (o1 negD (eCst (.nat 1)))))) (sSeq (sSubG (o2 addD (o2 ixG (eVar 3) (eVar 5)) (eVar 6)) (eVar 3) (eVar 5)) (sSeq (sSet 7 (o1 listA (eVar 2))) (sSeq (sFor (iEnu (eVar 1)) (gTl 2 (gsCons (gNm 8) (gsCons (gNm 9) gsNil))) (sSeq (sSubG (o2 subD (o2 ixG (eVar 7) (o2 addD (eVar 5) (eVar 8))) (o2 mulD (eVar 6) (eVar 9))) (eVar 7) (o2 addD (eVar 5) (eVar 8))) sNil)) (sSeq (sSet 2 (eCall f_trimmed (aCons (eVar 7) aNil))) sNil))))))))) (sSeq (sRet (eCall f_small (aCons (eCall f_trimmed (aCons (eVar 3) aNil)) aNil))) sNil))))
def f_quotient : MF := mkF (unks 9) c_quotient
theorem ok_quotient (Z : Fx K mg) (D0 : Dx K mg "quotient" 83) (C_trimmed : Cl P w K mg base 1 "trimmed" 1 f_trimmed) (C_small : Cl P w K mg base 1 "small" 1 f_small) : Cl P w K mg base 2 "quotient" 2 f_quotient := by
  obtain ⟨f, fd, F, hm⟩ := D0.ex
  refine ⟨f, fd, ["one", "other"], fn_ok F S_quotient rfl rfl fun cdv A outer s H E hr => ?_, hm, F.kp, F.bindsN fun _ _ _ _ _ _ us hl => match us, hl with | [_, _], _ => rfl⟩
  have hu := hu_of hr
  exact (SC (sP2 2 3 S_quotient.nd (aC (vL 0) (aC (bMul (lS (aC cN a0)) (bAdd (bSub (b1 call_len_seq len_ok boot_len Z.b_len (vL 0)) (b1 call_len_seq len_ok boot_len Z.b_len (vL 1))) cN)) a0))) (SC (sW 4 S_quotient.nd (b1 call_abs abs_ok boot_abs Z.b_abs (ix hu (vL 1) (uNeg cN)))) (SC (sL 100000 PassesOwn.never (qNe hu (vL 2) (tU a0)) (SC (sV 5 S_quotient.nd (bSub (b1 call_len_seq len_ok boot_len Z.b_len (vL 2)) (b1 call_len_seq len_ok boot_len Z.b_len (vL 1)))) (SC (sV 2 S_quotient.nd (t1 call_tuple_of tuple_ok boot_tuple Z.b_tuple (lc0 [("own", 10)] S_quotient.nd (iQ (vL 2)) (fun _ _ _ _ _ => (gL 10 S_quotient.nd)) (fun _ _ _ _ _ => (bMul (vL 10) (vC 4)))))) (SC (sc0 3 [("own", 10)] S_quotient.nd (iQ (vL 3)) (fun _ _ _ _ _ => (gL 10 S_quotient.nd)) (fun _ _ _ _ _ => (bMul (vL 10) (vC 4)))) (SC (sV 6 S_quotient.nd (bDiv (ix hu (vL 2) (uNeg cN)) (ix hu (vL 1) (uNeg cN)))) (SC (sU hu (bAdd (ix hu (vL 3) (vL 5)) (vL 6)) (vL 3) (vL 5)) (SC (sV 7 S_quotient.nd (t1 (call_listA rfl) listA_ok boot_list Z.b_list (vL 2))) (SC (sF PassesOwn.never (iE Z.b_enumerate (vL 1)) (gT (gS (gL 8 S_quotient.nd) (gS (gL 9 S_quotient.nd) g0))) (SC (sU hu (bSub (ix hu (vL 7) (bAdd (vL 5) (vL 8))) (bMul (vL 6) (vL 9))) (vL 7) (bAdd (vL 5) (vL 8))) S0)) (SC (sV 2 S_quotient.nd (kL C_trimmed hr (aC (vL 7) a0) (by decide))) S0))))))))) (SC (sR (kL C_small hr (aC (kL C_trimmed hr (aC (vL 3) a0) (by decide)) a0) (by decide))) S0))))
theorem S_single_roots : FnScope ["one", "chain"] ["one"] (defScope (top 82)) := ⟨rfl, rfl, rfl, by decide +kernel, rfl, by decide +kernel, by decide +kernel⟩
def c_single_roots : MS := (sSeq (sSet 1 (eCall f_chain_of (aCons (eVar 0) aNil))) (sSeq (sRet (eIf (t2 eqH (o1 lenD (o2 ixG (eVar 1) (o1 negD (eCst (.nat 1))))) (eCst (.nat 1))) (eVar 0) (eCall f_quotient (aCons (eVar 0) (aCons (o2 ixG (eVar 1) (o1 negD (eCst (.nat 1)))) aNil))))) sNil))
def f0_single_roots : MF := mkF (unks 1) c_single_roots
def t_single_roots_0 : Tb := [([(.tup 1 [(.nat 1), (.nat 1)])], .p (.tup 1 [(.nat 1), (.nat 1)])), ([(.tup 1 [(.nat 0), (.nat 1), (.nat 1)])], .p (.tup 1 [(.nat 0), (.nat 1), (.nat 1)])), ([(.tup 1 [(.nat 0), (.nat 1)])], .p (.tup 1 [(.nat 0), (.nat 1)])), ([(.tup 1 [(.neg 0), (.nat 1)])], .p (.tup 1 [(.neg 0), (.nat 1)])), ([(.tup 1 [(.nat 1), (.nat 1), (.nat 2), (.nat 1)])], .p (.tup 1 [(.nat 1), (.nat 1), (.nat 2), (.nat 1)])), ([(.tup 1 [(.nat 0), (.nat 1), (.nat 1), (.nat 2), (.nat 1)])], .p (.tup 1 [(.nat 0), (.nat 1), (.nat 1), (.nat 2), (.nat 1)])), ([(.tup 1 [(.neg 0), (.neg 0), (.nat 1)])], .p (.tup 1 [(.neg 0), (.neg 0), (.nat 1)])), ([(.tup 1 [(.nat 1), (.nat 0), (.nat 2), (.nat 3), (.nat 3), (.nat 3), (.nat 1)])], .p (.tup 1 [(.nat 1), (.nat 0), (.nat 2), (.nat 3), (.nat 3), (.nat 3), (.nat 1)])), ([(.tup 1 [(.nat 0), (.nat 1), (.nat 1), (.nat 2), (.nat 5), (.nat 6), (.nat 6), (.nat 4), (.nat 1)])], .p (.tup 1 [(.nat 0), (.nat 1), (.nat 1), (.nat 2), (.nat 5), (.nat 6), (.nat 6), (.nat 4), (.nat 1)])), ([(.tup 1 [(.neg 0), (.neg 0), (.neg 0), (.nat 1)])], .p (.tup 1 [(.neg 0), (.neg 0), (.neg 0), (.nat 1)])), ([(.tup 1 [(.nat 1), (.neg 0), (.neg 0), (.nat 1)])], .p (.tup 1 [(.neg 0), (.nat 0), (.nat 1)])), ([(.tup 1 [(.neg 0), (.nat 0), (.nat 1)])], .p (.tup 1 [(.neg 0), (.nat 0), (.nat 1)])), ([(.tup 1 [(.nat 1), (.nat 1), (.nat 2), (.nat 5), (.nat 14), (.nat 26), (.nat 44), (.nat 69), (.nat 94), (.nat 114), (.nat 116), (.nat 94), (.nat 60), (.nat 28), (.nat 8), (.nat 1)])], .p (.tup 1 [(.nat 1), (.nat 1), (.nat 2), (.nat 5), (.nat 14), (.nat 26), (.nat 44), (.nat 69), (.nat 94), (.nat 114), (.nat 116), (.nat 94), (.nat 60), (.nat 28), (.nat 8), (.nat 1)])), ([(.tup 1 [(.nat 0), (.nat 1), (.nat 1), (.nat 2), (.nat 5), (.nat 14), (.nat 26), (.nat 44), (.nat 69), (.nat 94), (.nat 114), (.nat 116), (.nat 94), (.nat 60), (.nat 28), (.nat 8), (.nat 1)])], .p (.tup 1 [(.nat 0), (.nat 1), (.nat 1), (.nat 2), (.nat 5), (.nat 14), (.nat 26), (.nat 44), (.nat 69), (.nat 94), (.nat 114), (.nat 116), (.nat 94), (.nat 60), (.nat 28), (.nat 8), (.nat 1)])), ([(.tup 1 [(.nat 1), (.neg 0), (.neg 0), (.neg 0), (.nat 1)])], .p (.tup 1 [(.nat 1), (.neg 0), (.neg 0), (.neg 0), (.nat 1)])), ([(.tup 1 [(.neg 0), (.nat 1), (.neg 0), (.neg 0), (.nat 1)])], .p (.tup 1 [(.neg 0), (.nat 1), (.neg 0), (.neg 0), (.nat 1)])), ([(.tup 1 [(.neg 0), (.neg 0), (.neg 0), (.neg 0), (.nat 1)])], .p (.tup 1 [(.neg 0), (.neg 0), (.neg 0), (.neg 0), (.nat 1)]))]
def t_single_roots : Tb := t_single_roots_0
def f_single_roots : MF := memF t_single_roots f0_single_roots
theorem u_single_roots_0 : tOk f0_single_roots t_single_roots_0 = true := by decide +kernel
theorem u_single_roots : TbOk f0_single_roots t_single_roots := tOk_true u_single_roots_0
theorem ok_single_roots (Z : Fx K mg) (D0 : Dx K mg "single_roots" 82) (C_quotient : Cl P w K mg base 2 "quotient" 2 f_quotient) (C_chain_of : Cl P w K mg base 3 "chain_of" 1 f_chain_of) : Cl P w K mg base 4 "single_roots" 1 f_single_roots := by
  refine cl_mem ?_ u_single_roots
  obtain ⟨f, fd, F, hm⟩ := D0.ex
  refine ⟨f, fd, ["one"], fn_ok F S_single_roots rfl rfl fun cdv A outer s H E hr => ?_, hm, F.kp, F.bindsN fun _ _ _ _ _ _ us hl => match us, hl with | [_], _ => rfl⟩
  have hu := hu_of hr
  exact (SC (sV 1 S_single_roots.nd (kL C_chain_of hr (aC (vL 0) a0) (by decide))) (SC (sR (ok_if (qEq hu (b1 call_len_seq len_ok boot_len Z.b_len (ix hu (vL 1) (uNeg cN))) cN) (vL 0) (kL C_quotient hr (aC (vL 0) (aC (ix hu (vL 1) (uNeg cN)) a0)) (by decide)))) S0))
theorem S_roots_between : FnScope ["poly", "low", "high", "own", "first", "last"] ["poly", "low", "high"] (defScope (top 81)) := ⟨rfl, rfl, rfl, by decide +kernel, rfl, by decide +kernel, by decide +kernel⟩
def c_roots_between : MS := (sSeq (sSet 3 (eCall f_sure_turning_poly (aCons (eVar 0) aNil))) (sSeq (sPar2 4 5 (aCons (eCall f_sure_fraction (aCons (eVar 1) aNil)) (aCons (eCall f_sure_fraction (aCons (eVar 2) aNil)) aNil))) (sSeq (sIf (tNot (tE (eCall f_is_less (aCons (eVar 4) (aCons (eVar 5) aNil))))) (sSeq sNever sNil) sNil) (sSeq (sRet (eCall f_roots_by (aCons (eCall f_chain_of (aCons (eCall f_single_roots (aCons (eVar 3) aNil)) aNil)) (aCons (eVar 4) (aCons (eVar 5) aNil))))) sNil))))
def f0_roots_between : MF := mkF (unks 3) c_roots_between
def t_roots_between_0 : Tb := [([(.tup 1 [(.nat 1), (.nat 1)]), (.tup 1 [(.neg 1), (.nat 1)]), (.tup 1 [(.nat 0), (.nat 1)])], .p (.nat 1)), ([(.tup 1 [(.nat 0), (.nat 1), (.nat 1)]), (.tup 1 [(.neg 1), (.nat 1)]), (.tup 1 [(.nat 0), (.nat 1)])], .p (.nat 2)), ([(.tup 1 [(.nat 0), (.nat 1)]), (.tup 1 [(.neg 1), (.nat 1)]), (.tup 1 [(.nat 0), (.nat 1)])], .p (.nat 1)), ([(.tup 1 [(.nat 1), (.nat 1), (.nat 2), (.nat 1)]), (.tup 1 [(.neg 1), (.nat 1)]), (.tup 1 [(.nat 0), (.nat 1)])], .p (.nat 1)), ([(.tup 1 [(.nat 0), (.nat 1), (.nat 1), (.nat 2), (.nat 1)]), (.tup 1 [(.neg 1), (.nat 1)]), (.tup 1 [(.nat 0), (.nat 1)])], .p (.nat 2)), ([(.tup 1 [(.nat 1), (.nat 0), (.nat 2), (.nat 3), (.nat 3), (.nat 3), (.nat 1)]), (.tup 1 [(.neg 1), (.nat 1)]), (.tup 1 [(.nat 0), (.nat 1)])], .p (.nat 2)), ([(.tup 1 [(.nat 0), (.nat 1), (.nat 1), (.nat 2), (.nat 5), (.nat 6), (.nat 6), (.nat 4), (.nat 1)]), (.tup 1 [(.neg 1), (.nat 1)]), (.tup 1 [(.nat 0), (.nat 1)])], .p (.nat 4)), ([(.tup 1 [(.nat 1), (.nat 1), (.nat 2), (.nat 5), (.nat 14), (.nat 26), (.nat 44), (.nat 69), (.nat 94), (.nat 114), (.nat 116), (.nat 94), (.nat 60), (.nat 28), (.nat 8), (.nat 1)]), (.tup 1 [(.neg 1), (.nat 1)]), (.tup 1 [(.nat 0), (.nat 1)])], .p (.nat 3)), ([(.tup 1 [(.nat 0), (.nat 1), (.nat 1), (.nat 2), (.nat 5), (.nat 14), (.nat 26), (.nat 44), (.nat 69), (.nat 94), (.nat 114), (.nat 116), (.nat 94), (.nat 60), (.nat 28), (.nat 8), (.nat 1)]), (.tup 1 [(.neg 1), (.nat 1)]), (.tup 1 [(.nat 0), (.nat 1)])], .p (.nat 4))]
def t_roots_between : Tb := t_roots_between_0
def f_roots_between : MF := memF t_roots_between f0_roots_between
theorem u_roots_between_0 : tOk f0_roots_between t_roots_between_0 = true := by decide +kernel
theorem u_roots_between : TbOk f0_roots_between t_roots_between := tOk_true u_roots_between_0
theorem ok_roots_between (Z : Fx K mg) (D0 : Dx K mg "roots_between" 81) (C_single_roots : Cl P w K mg base 4 "single_roots" 1 f_single_roots) (C_chain_of : Cl P w K mg base 3 "chain_of" 1 f_chain_of) (C_roots_by : Cl P w K mg base 3 "roots_by" 3 f_roots_by) (C_is_less : Cl P w K mg base 1 "is_less" 2 f_is_less) (C_sure_fraction : Cl P w K mg base 16 "sure_fraction" 1 f_sure_fraction) (C_sure_turning_poly : Cl P w K mg base 17 "sure_turning_poly" 1 f_sure_turning_poly) : Cl P w K mg base 18 "roots_between" 3 f_roots_between := by
  refine cl_mem ?_ u_roots_between
  obtain ⟨f, fd, F, hm⟩ := D0.ex
  refine ⟨f, fd, ["poly", "low", "high"], fn_ok F S_roots_between rfl rfl fun cdv A outer s H E hr => ?_, hm, F.kp, F.bindsN fun _ _ _ _ _ _ us hl => match us, hl with | [_, _, _], _ => rfl⟩
  have hu := hu_of hr
  exact (SC (sV 3 S_roots_between.nd (kL C_sure_turning_poly hr (aC (vL 0) a0) (by decide))) (SC (sP2 4 5 S_roots_between.nd (aC (kL C_sure_fraction hr (aC (vL 1) a0) (by decide)) (aC (kL C_sure_fraction hr (aC (vL 2) a0) (by decide)) a0))) (SC (sI (qNot (qE (kL C_is_less hr (aC (vL 4) (aC (vL 5) a0)) (by decide)))) (SC SX S0) S0) (SC (sR (kL C_roots_by hr (aC (kL C_chain_of hr (aC (kL C_single_roots hr (aC (vL 3) a0) (by decide)) a0) (by decide)) (aC (vL 4) (aC (vL 5) a0))) (by decide))) S0))))
theorem S_parted_by : FnScope ["chain", "low", "high", "many", "middle"] ["chain", "low", "high"] (defScope (top 88)) := ⟨rfl, rfl, rfl, by decide +kernel, rfl, by decide +kernel, by decide +kernel⟩
def c_parted_by (self : MF) : MS := (sSeq (sSet 3 (eCall f_roots_by (aCons (eVar 0) (aCons (eVar 1) (aCons (eVar 2) aNil))))) (sSeq (sIf (t2 ltD (eVar 3) (eCst (.nat 2))) (sSeq (sRet (o2 mulD (eLst (aCons (eTup (aCons (eVar 1) (aCons (eVar 2) aNil))) aNil)) (eVar 3))) sNil) sNil) (sSeq (sSet 4 (eCall f_halfway (aCons (eVar 1) (aCons (eVar 2) aNil)))) (sSeq (sRet (o2 addD (eCall self (aCons (eVar 0) (aCons (eVar 4) (aCons (eVar 2) aNil)))) (eCall self (aCons (eVar 0) (aCons (eVar 1) (aCons (eVar 4) aNil)))))) sNil))))
def f_parted_by (n : Nat) : MF := @Nat.rec (fun _ => MF) (fun _ _ _ => false) (fun _ ih => mkF (unks 2) (c_parted_by ih)) n
theorem ok_parted_by (Z : Fx K mg) (D0 : Dx K mg "parted_by" 88) (C_halfway : Cl P w K mg base 2 "halfway" 2 f_halfway) (C_roots_by : Cl P w K mg base 3 "roots_by" 3 f_roots_by) : ∀ n : Nat, Cl P w K mg base (3 + n + 1) "parted_by" 3 (f_parted_by n)
  | 0 => by
    obtain ⟨f, fd, F, hm⟩ := D0.ex
    exact ⟨f, fd, ["chain", "low", "high"], fn_false F S_parted_by rfl, hm, F.kp, F.bindsN fun _ _ _ _ _ _ us hl => match us, hl with | [_, _, _], _ => rfl⟩
  | n + 1 => by
    have C_self := ok_parted_by Z D0 C_halfway C_roots_by n
    obtain ⟨f, fd, F, hm⟩ := D0.ex
    show Cl P w K mg base (3 + (n + 1) + 1) "parted_by" 3 (mkF (unks 2) (c_parted_by (f_parted_by n)))
    refine ⟨f, fd, ["chain", "low", "high"], fn_ok F S_parted_by rfl rfl fun cdv A outer s H E hr => ?_, hm, F.kp, F.bindsN fun _ _ _ _ _ _ us hl => match us, hl with | [_, _, _], _ => rfl⟩
    have hu := hu_of hr
    have hk_self : 3 + n + 1 ≤ 3 + (n + 1) := Nat.le_refl _
    exact (SC (sV 3 S_parted_by.nd (kL C_roots_by hr (aC (vL 0) (aC (vL 1) (aC (vL 2) a0))) (Nat.le_trans (by decide) (Nat.le_add_right 3 (n + 1))))) (SC (sI (qLt (vL 3) cN) (SC (sR (bMul (lS (aC (tU (aC (vL 1) (aC (vL 2) a0))) a0)) (vL 3))) S0) S0) (SC (sV 4 S_parted_by.nd (kL C_halfway hr (aC (vL 1) (aC (vL 2) a0)) (Nat.le_trans (by decide) (Nat.le_add_right 3 (n + 1))))) (SC (sR (bAdd (kL C_self hr (aC (vL 0) (aC (vL 4) (aC (vL 2) a0))) hk_self) (kL C_self hr (aC (vL 0) (aC (vL 1) (aC (vL 4) a0))) hk_self))) S0))))
theorem S_narrowed : FnScope ["chain", "stretch", "low", "high", "middle"] ["chain", "stretch"] (defScope (top 89)) := ⟨rfl, rfl, rfl, by decide +kernel, rfl, by decide +kernel, by decide +kernel⟩
def c_narrowed : MS := (sSeq (sAsg (gTl 2 (gsCons (gNm 2) (gsCons (gNm 3) gsNil))) (eVar 1)) (sSeq (sSet 4 (eCall f_halfway (aCons (eVar 2) (aCons (eVar 3) aNil)))) (sSeq (sRet (eIf (t2 eqH (eCall f_roots_by (aCons (eVar 0) (aCons (eVar 4) (aCons (eVar 3) aNil)))) (eCst (.nat 1))) (eTup (aCons (eVar 4) (aCons (eVar 3) aNil))) (eTup (aCons (eVar 2) (aCons (eVar 4) aNil))))) sNil)))
def f_narrowed : MF := mkF (unks 3) c_narrowed
theorem ok_narrowed (Z : Fx K mg) (D0 : Dx K mg "narrowed" 89) (C_roots_by : Cl P w K mg base 3 "roots_by" 3 f_roots_by) (C_halfway : Cl P w K mg base 2 "halfway" 2 f_halfway) : Cl P w K mg base 4 "narrowed" 2 f_narrowed := by
  obtain ⟨f, fd, F, hm⟩ := D0.ex
  refine ⟨f, fd, ["chain", "stretch"], fn_ok F S_narrowed rfl rfl fun cdv A outer s H E hr => ?_, hm, F.kp, F.bindsN fun _ _ _ _ _ _ us hl => match us, hl with | [_, _], _ => rfl⟩
  have hu := hu_of hr
  exact (SC (sA (vL 1) (gT (gS (gL 2 S_narrowed.nd) (gS (gL 3 S_narrowed.nd) g0)))) (SC (sV 4 S_narrowed.nd (kL C_halfway hr (aC (vL 2) (aC (vL 3) a0)) (by decide))) (SC (sR (ok_if (qEq hu (kL C_roots_by hr (aC (vL 0) (aC (vL 4) (aC (vL 3) a0))) (by decide)) cN) (tU (aC (vL 4) (aC (vL 3) a0))) (tU (aC (vL 2) (aC (vL 4) a0))))) S0)))
theorem S_side_by_root : FnScope ["chain", "stretch", "poly", "own", "held"] ["chain", "stretch", "poly"] (defScope (top 90)) := ⟨rfl, rfl, rfl, by decide +kernel, rfl, by decide +kernel, by decide +kernel⟩
def c_side_by_root : MS := (sSeq (sPar2 3 4 (aCons (eCall f_chain_of (aCons (eVar 2) aNil)) (aCons (eVar 1) aNil))) (sSeq (sWh 100000 (tOr (t2 gtD (eCall f_roots_by (aCons (eVar 3) (aCons (o2 ixG (eVar 4) (eCst (.nat 0))) (aCons (o2 ixG (eVar 4) (eCst (.nat 1))) aNil)))) (eCst (.nat 0))) (t2 eqH (eCall f_sign_by (aCons (eVar 2) (aCons (o2 ixG (eVar 4) (eCst (.nat 0))) aNil))) (eCst (.nat 0)))) (sSeq (sSet 4 (eCall f_narrowed (aCons (eVar 0) (aCons (eVar 4) aNil)))) sNil)) (sSeq (sRet (eIf (t2 ltD (eCall f_sign_by (aCons (eVar 2) (aCons (o2 ixG (eVar 4) (eCst (.nat 1))) aNil))) (eCst (.nat 0))) (eCst (.nat 1)) (eCst (.nat 0)))) sNil)))
def f_side_by_root : MF := mkF (unks 2) c_side_by_root
theorem ok_side_by_root (Z : Fx K mg) (D0 : Dx K mg "side_by_root" 90) (C_sign_by : Cl P w K mg base 1 "sign_by" 2 f_sign_by) (C_roots_by : Cl P w K mg base 3 "roots_by" 3 f_roots_by) (C_narrowed : Cl P w K mg base 4 "narrowed" 2 f_narrowed) (C_chain_of : Cl P w K mg base 3 "chain_of" 1 f_chain_of) : Cl P w K mg base 5 "side_by_root" 3 f_side_by_root := by
  obtain ⟨f, fd, F, hm⟩ := D0.ex
  refine ⟨f, fd, ["chain", "stretch", "poly"], fn_ok F S_side_by_root rfl rfl fun cdv A outer s H E hr => ?_, hm, F.kp, F.bindsN fun _ _ _ _ _ _ us hl => match us, hl with | [_, _, _], _ => rfl⟩
  have hu := hu_of hr
  exact (SC (sP2 3 4 S_side_by_root.nd (aC (kL C_chain_of hr (aC (vL 2) a0) (by decide)) (aC (vL 1) a0))) (SC (sL 100000 PassesOwn.never (wT (wO (qGt (kL C_roots_by hr (aC (vL 3) (aC (ix hu (vL 4) cN) (aC (ix hu (vL 4) cN) a0))) (by decide)) cN) (wO1 (qEq hu (kL C_sign_by hr (aC (vL 2) (aC (ix hu (vL 4) cN) a0)) (by decide)) cN)))) (SC (sV 4 S_side_by_root.nd (kL C_narrowed hr (aC (vL 0) (aC (vL 4) a0)) (by decide))) S0)) (SC (sR (ok_if (qLt (kL C_sign_by hr (aC (vL 2) (aC (ix hu (vL 4) cN) a0)) (by decide)) cN) (gI Z.i_FAR) (gI Z.i_NEAR))) S0)))
theorem S_row_by_root : FnScope ["many", "stretch", "chain", "k"] ["many", "stretch"] (defScope (top 91)) := ⟨rfl, rfl, rfl, by decide +kernel, rfl, by decide +kernel, by decide +kernel⟩
def c_row_by_root : MS := (sSeq (sSet 2 (eCall f_chain_of (aCons (eCall (f_own_by 14) (aCons (eVar 0) aNil)) aNil))) (sSeq (sRet (o2 addD (o1 tupleD (eLc (iRg2 (eCst (.nat 1)) (eVar 0)) (gNm 3) (bd0 (eCall f_side_by_root (aCons (eVar 2) (aCons (eVar 1) (aCons (eCall f_loop_by (aCons (eVar 3) aNil)) aNil))))) [3])) (eTup (aCons (eCst (.nat 2)) aNil)))) sNil))
def f0_row_by_root : MF := mkF (unks 2) c_row_by_root
def t_row_by_root_0 : Tb := [([(.nat 2), (.tup 2 [(.tup 1 [(.neg 1), (.nat 1)]), (.tup 1 [(.nat 0), (.nat 1)])])], .p (.tup 1 [(.nat 1), (.nat 2)])), ([(.nat 2), (.tup 2 [(.tup 1 [(.neg 576460752303423488), (.nat 576460752303423488)]), (.tup 1 [(.neg 0), (.nat 1)])])], .p (.tup 1 [(.nat 1), (.nat 2)])), ([(.nat 3), (.tup 2 [(.tup 1 [(.neg 1), (.nat 1)]), (.tup 1 [(.nat 0), (.nat 1)])])], .p (.tup 1 [(.nat 1), (.nat 0), (.nat 2)])), ([(.nat 3), (.tup 2 [(.tup 1 [(.neg 1011618099685044628), (.nat 576460752303423488)]), (.tup 1 [(.neg 252904524921261156), (.nat 144115188075855872)])])], .p (.tup 1 [(.nat 1), (.nat 0), (.nat 2)])), ([(.nat 4), (.tup 2 [(.tup 1 [(.neg 2), (.nat 2)]), (.tup 1 [(.neg 0), (.nat 1)])])], .p (.tup 1 [(.nat 1), (.nat 0), (.nat 1), (.nat 2)])), ([(.nat 4), (.tup 2 [(.tup 1 [(.neg 1), (.nat 1)]), (.tup 1 [(.neg 2), (.nat 2)])])], .p (.tup 1 [(.nat 1), (.nat 0), (.nat 0), (.nat 2)])), ([(.nat 4), (.tup 2 [(.tup 1 [(.neg 3022274522684459746), (.nat 2305843009213693952)]), (.tup 1 [(.neg 1511137261342229872), (.nat 1152921504606846976)])])], .p (.tup 1 [(.nat 1), (.nat 0), (.nat 1), (.nat 2)])), ([(.nat 4), (.tup 2 [(.tup 1 [(.neg 2237589833084651074), (.nat 1152921504606846976)]), (.tup 1 [(.neg 4475179666169302148), (.nat 2305843009213693952)])])], .p (.tup 1 [(.nat 1), (.nat 0), (.nat 0), (.nat 2)])), ([(.nat 5), (.tup 2 [(.tup 1 [(.neg 6), (.nat 4)]), (.tup 1 [(.neg 2), (.nat 2)])])], .p (.tup 1 [(.nat 1), (.nat 0), (.nat 1), (.nat 1), (.nat 2)])), ([(.nat 5), (.tup 2 [(.tup 1 [(.neg 14), (.nat 8)]), (.tup 1 [(.neg 6), (.nat 4)])])], .p (.tup 1 [(.nat 1), (.nat 0), (.nat 0), (.nat 1), (.nat 2)])), ([(.nat 5), (.tup 2 [(.tup 1 [(.neg 1), (.nat 1)]), (.tup 1 [(.neg 14), (.nat 8)])])], .p (.tup 1 [(.nat 1), (.nat 0), (.nat 0), (.nat 0), (.nat 2)])), ([(.nat 5), (.tup 2 [(.tup 1 [(.neg 3747948875155558668), (.nat 2305843009213693952)]), (.tup 1 [(.neg 7495897750311117336), (.nat 4611686018427387904)])])], .p (.tup 1 [(.nat 1), (.nat 0), (.nat 1), (.nat 1), (.nat 2)])), ([(.nat 5), (.tup 2 [(.tup 1 [(.neg 17162689481972359366), (.nat 9223372036854775808)]), (.tup 1 [(.neg 8581344740986179682), (.nat 4611686018427387904)])])], .p (.tup 1 [(.nat 1), (.nat 0), (.nat 0), (.nat 1), (.nat 2)])), ([(.nat 5), (.tup 2 [(.tup 1 [(.neg 18312306536913437474), (.nat 9223372036854775808)]), (.tup 1 [(.neg 9156153268456718736), (.nat 4611686018427387904)])])], .p (.tup 1 [(.nat 1), (.nat 0), (.nat 0), (.nat 0), (.nat 2)]))]
def t_row_by_root : Tb := t_row_by_root_0
def f_row_by_root : MF := memF t_row_by_root f0_row_by_root
theorem u_row_by_root_0 : tOk f0_row_by_root t_row_by_root_0 = true := by decide +kernel
theorem u_row_by_root : TbOk f0_row_by_root t_row_by_root := tOk_true u_row_by_root_0
theorem ok_row_by_root (Z : Fx K mg) (D0 : Dx K mg "row_by_root" 91) (C_loop_by : Cl P w K mg base 3 "loop_by" 1 f_loop_by) (C_side_by_root : Cl P w K mg base 5 "side_by_root" 3 f_side_by_root) (C_own_by : Cl P w K mg base 18 "own_by" 1 (f_own_by 14)) (C_chain_of : Cl P w K mg base 3 "chain_of" 1 f_chain_of) : Cl P w K mg base 19 "row_by_root" 2 f_row_by_root := by
  refine cl_mem ?_ u_row_by_root
  obtain ⟨f, fd, F, hm⟩ := D0.ex
  refine ⟨f, fd, ["many", "stretch"], fn_ok F S_row_by_root rfl rfl fun cdv A outer s H E hr => ?_, hm, F.kp, F.bindsN fun _ _ _ _ _ _ us hl => match us, hl with | [_, _], _ => rfl⟩
  have hu := hu_of hr
  exact (SC (sW 2 S_row_by_root.nd (kL C_chain_of hr (aC (kL C_own_by hr (aC (vL 0) a0) (by decide)) a0) (by decide))) (SC (sR (bAdd (t1 call_tuple_of tuple_ok boot_tuple Z.b_tuple (lc0 [("k", 3)] S_row_by_root.nd (iR2 Z.b_range cN (vL 0)) (fun _ _ _ _ _ => (gL 3 S_row_by_root.nd)) (fun _ _ _ _ _ => (kL C_side_by_root hr (aC (vC 2) (aC (vC 1) (aC (kL C_loop_by hr (aC (vL 3) a0) (by decide)) a0))) (by decide))))) (tU (aC (gI Z.i_CUT) a0)))) S0))
theorem S_sure_many : FnScope ["thing"] ["thing"] (defScope (top 92)) := ⟨rfl, rfl, rfl, by decide +kernel, rfl, by decide +kernel, by decide +kernel⟩
def c_sure_many : MS := (sSeq (sIf (tNot (tE (eCall f_is_within (aCons (eVar 0) (aCons (eCst (.nat 2)) (aCons (eCst (.nat 60)) aNil)))))) (sSeq sNever sNil) sNil) (sSeq (sIf (t2 gtD (eVar 0) (eCst (.nat 6))) (sSeq sNever sNil) sNil) (sSeq (sRet (eVar 0)) sNil)))
def f_sure_many : MF := mkF (unks 0) c_sure_many
theorem ok_sure_many (Z : Fx K mg) (D0 : Dx K mg "sure_many" 92) (C_is_within : Cl P w K mg base 2 "is_within" 3 f_is_within) : Cl P w K mg base 3 "sure_many" 1 f_sure_many := by
  obtain ⟨f, fd, F, hm⟩ := D0.ex
  refine ⟨f, fd, ["thing"], fn_ok F S_sure_many rfl rfl fun cdv A outer s H E hr => ?_, hm, F.kp, F.bindsN fun _ _ _ _ _ _ us hl => match us, hl with | [_], _ => rfl⟩
  have hu := hu_of hr
  exact (SC (sI (qNot (qE (kL C_is_within hr (aC (vL 0) (aC cN (aC cN a0))) (by decide)))) (SC SX S0) S0) (SC (sI (qGt (vL 0) (gI Z.i_LARGEST_roots)) (SC SX S0) S0) (SC (sR (vL 0)) S0)))
theorem S_is_stretch : FnScope ["thing"] ["thing"] (defScope (top 93)) := ⟨rfl, rfl, rfl, by decide +kernel, rfl, by decide +kernel, by decide +kernel⟩
def c_is_stretch : MS := (sSeq (sRet (eAnd (eCall f_is_long (aCons (eVar 0) (aCons (eCst (.nat 2)) aNil))) (eAnd (eCall f_is_fraction (aCons (o2 ixG (eVar 0) (eCst (.nat 0))) aNil)) (eAnd (eCall f_is_fraction (aCons (o2 ixG (eVar 0) (eCst (.nat 1))) aNil)) (eCall f_is_less (aCons (o2 ixG (eVar 0) (eCst (.nat 0))) (aCons (o2 ixG (eVar 0) (eCst (.nat 1))) aNil))))))) sNil)
def f_is_stretch : MF := mkF (unks 0) c_is_stretch
theorem ok_is_stretch (Z : Fx K mg) (D0 : Dx K mg "is_stretch" 93) (C_is_long : Cl P w K mg base 1 "is_long" 2 f_is_long) (C_is_fraction : Cl P w K mg base 3 "is_fraction" 1 f_is_fraction) (C_is_less : Cl P w K mg base 1 "is_less" 2 f_is_less) : Cl P w K mg base 4 "is_stretch" 1 f_is_stretch := by
  obtain ⟨f, fd, F, hm⟩ := D0.ex
  refine ⟨f, fd, ["thing"], fn_ok F S_is_stretch rfl rfl fun cdv A outer s H E hr => ?_, hm, F.kp, F.bindsN fun _ _ _ _ _ _ us hl => match us, hl with | [_], _ => rfl⟩
  have hu := hu_of hr
  exact (SC (sR (ok_eAnd (kL C_is_long hr (aC (vL 0) (aC cN a0)) (by decide)) (ok_eAnd (kL C_is_fraction hr (aC (ix hu (vL 0) cN) a0) (by decide)) (ok_eAnd (kL C_is_fraction hr (aC (ix hu (vL 0) cN) a0) (by decide)) (pe_one (kL C_is_less hr (aC (ix hu (vL 0) cN) (aC (ix hu (vL 0) cN) a0)) (by decide))))))) S0)
theorem S_sure_stretch : FnScope ["many", "thing", "stretch"] ["many", "thing"] (defScope (top 94)) := ⟨rfl, rfl, rfl, by decide +kernel, rfl, by decide +kernel, by decide +kernel⟩
def c_sure_stretch : MS := (sSeq (sSet 2 (eCall (f_tupled 14) (aCons (eVar 1) aNil))) (sSeq (sIf (tOr (tNot (tE (eCall f_is_within (aCons (eVar 0) (aCons (eCst (.nat 2)) (aCons (eCst (.nat 60)) aNil)))))) (tNot (tE (eCall f_is_stretch (aCons (eVar 2) aNil))))) (sSeq sNever sNil) sNil) (sSeq (sIf (t2 neH (eCall f_roots_by (aCons (eCall f_chain_of (aCons (eCall (f_own_by 14) (aCons (eCall f_sure_many (aCons (eVar 0) aNil)) aNil)) aNil)) (aCons (o2 ixG (eVar 2) (eCst (.nat 0))) (aCons (o2 ixG (eVar 2) (eCst (.nat 1))) aNil)))) (eCst (.nat 1))) (sSeq sNever sNil) sNil) (sSeq (sRet (eVar 2)) sNil))))
def f0_sure_stretch : MF := mkF (unks 1) c_sure_stretch
def t_sure_stretch_0 : Tb := [([(.nat 2), (.tup 2 [(.tup 1 [(.neg 1), (.nat 1)]), (.tup 1 [(.nat 0), (.nat 1)])])], .p (.tup 2 [(.tup 1 [(.neg 1), (.nat 1)]), (.tup 1 [(.nat 0), (.nat 1)])])), ([(.nat 2), (.tup 2 [(.tup 1 [(.neg 576460752303423488), (.nat 576460752303423488)]), (.tup 1 [(.neg 0), (.nat 1)])])], .p (.tup 2 [(.tup 1 [(.neg 576460752303423488), (.nat 576460752303423488)]), (.tup 1 [(.neg 0), (.nat 1)])])), ([(.nat 3), (.tup 2 [(.tup 1 [(.neg 1), (.nat 1)]), (.tup 1 [(.nat 0), (.nat 1)])])], .p (.tup 2 [(.tup 1 [(.neg 1), (.nat 1)]), (.tup 1 [(.nat 0), (.nat 1)])])), ([(.nat 3), (.tup 2 [(.tup 1 [(.neg 1011618099685044628), (.nat 576460752303423488)]), (.tup 1 [(.neg 252904524921261156), (.nat 144115188075855872)])])], .p (.tup 2 [(.tup 1 [(.neg 1011618099685044628), (.nat 576460752303423488)]), (.tup 1 [(.neg 252904524921261156), (.nat 144115188075855872)])])), ([(.nat 4), (.tup 2 [(.tup 1 [(.neg 2), (.nat 2)]), (.tup 1 [(.neg 0), (.nat 1)])])], .p (.tup 2 [(.tup 1 [(.neg 2), (.nat 2)]), (.tup 1 [(.neg 0), (.nat 1)])])), ([(.nat 4), (.tup 2 [(.tup 1 [(.neg 3022274522684459746), (.nat 2305843009213693952)]), (.tup 1 [(.neg 1511137261342229872), (.nat 1152921504606846976)])])], .p (.tup 2 [(.tup 1 [(.neg 3022274522684459746), (.nat 2305843009213693952)]), (.tup 1 [(.neg 1511137261342229872), (.nat 1152921504606846976)])])), ([(.nat 4), (.tup 2 [(.tup 1 [(.neg 1), (.nat 1)]), (.tup 1 [(.neg 2), (.nat 2)])])], .p (.tup 2 [(.tup 1 [(.neg 1), (.nat 1)]), (.tup 1 [(.neg 2), (.nat 2)])])), ([(.nat 4), (.tup 2 [(.tup 1 [(.neg 2237589833084651074), (.nat 1152921504606846976)]), (.tup 1 [(.neg 4475179666169302148), (.nat 2305843009213693952)])])], .p (.tup 2 [(.tup 1 [(.neg 2237589833084651074), (.nat 1152921504606846976)]), (.tup 1 [(.neg 4475179666169302148), (.nat 2305843009213693952)])])), ([(.nat 5), (.tup 2 [(.tup 1 [(.neg 6), (.nat 4)]), (.tup 1 [(.neg 2), (.nat 2)])])], .p (.tup 2 [(.tup 1 [(.neg 6), (.nat 4)]), (.tup 1 [(.neg 2), (.nat 2)])])), ([(.nat 5), (.tup 2 [(.tup 1 [(.neg 3747948875155558668), (.nat 2305843009213693952)]), (.tup 1 [(.neg 7495897750311117336), (.nat 4611686018427387904)])])], .p (.tup 2 [(.tup 1 [(.neg 3747948875155558668), (.nat 2305843009213693952)]), (.tup 1 [(.neg 7495897750311117336), (.nat 4611686018427387904)])])), ([(.nat 5), (.tup 2 [(.tup 1 [(.neg 14), (.nat 8)]), (.tup 1 [(.neg 6), (.nat 4)])])], .p (.tup 2 [(.tup 1 [(.neg 14), (.nat 8)]), (.tup 1 [(.neg 6), (.nat 4)])])), ([(.nat 5), (.tup 2 [(.tup 1 [(.neg 17162689481972359366), (.nat 9223372036854775808)]), (.tup 1 [(.neg 8581344740986179682), (.nat 4611686018427387904)])])], .p (.tup 2 [(.tup 1 [(.neg 17162689481972359366), (.nat 9223372036854775808)]), (.tup 1 [(.neg 8581344740986179682), (.nat 4611686018427387904)])])), ([(.nat 5), (.tup 2 [(.tup 1 [(.neg 1), (.nat 1)]), (.tup 1 [(.neg 14), (.nat 8)])])], .p (.tup 2 [(.tup 1 [(.neg 1), (.nat 1)]), (.tup 1 [(.neg 14), (.nat 8)])])), ([(.nat 5), (.tup 2 [(.tup 1 [(.neg 18312306536913437474), (.nat 9223372036854775808)]), (.tup 1 [(.neg 9156153268456718736), (.nat 4611686018427387904)])])], .p (.tup 2 [(.tup 1 [(.neg 18312306536913437474), (.nat 9223372036854775808)]), (.tup 1 [(.neg 9156153268456718736), (.nat 4611686018427387904)])]))]
def t_sure_stretch : Tb := t_sure_stretch_0
def f_sure_stretch : MF := memF t_sure_stretch f0_sure_stretch
theorem u_sure_stretch_0 : tOk f0_sure_stretch t_sure_stretch_0 = true := by decide +kernel
theorem u_sure_stretch : TbOk f0_sure_stretch t_sure_stretch := tOk_true u_sure_stretch_0
theorem ok_sure_stretch (Z : Fx K mg) (D0 : Dx K mg "sure_stretch" 94) (C_sure_many : Cl P w K mg base 3 "sure_many" 1 f_sure_many) (C_own_by : Cl P w K mg base 18 "own_by" 1 (f_own_by 14)) (C_chain_of : Cl P w K mg base 3 "chain_of" 1 f_chain_of) (C_roots_by : Cl P w K mg base 3 "roots_by" 3 f_roots_by) (C_is_within : Cl P w K mg base 2 "is_within" 3 f_is_within) (C_is_stretch : Cl P w K mg base 4 "is_stretch" 1 f_is_stretch) (C_tupled : Cl P w K mg base 15 "tupled" 1 (f_tupled 14)) : Cl P w K mg base 19 "sure_stretch" 2 f_sure_stretch := by
  refine cl_mem ?_ u_sure_stretch
  obtain ⟨f, fd, F, hm⟩ := D0.ex
  refine ⟨f, fd, ["many", "thing"], fn_ok F S_sure_stretch rfl rfl fun cdv A outer s H E hr => ?_, hm, F.kp, F.bindsN fun _ _ _ _ _ _ us hl => match us, hl with | [_, _], _ => rfl⟩
  have hu := hu_of hr
  exact (SC (sV 2 S_sure_stretch.nd (kL C_tupled hr (aC (vL 1) a0) (by decide))) (SC (sI (wT (wO (qNot (qE (kL C_is_within hr (aC (vL 0) (aC cN (aC cN a0))) (by decide)))) (wO1 (qNot (qE (kL C_is_stretch hr (aC (vL 2) a0) (by decide))))))) (SC SX S0) S0) (SC (sI (qNe hu (kL C_roots_by hr (aC (kL C_chain_of hr (aC (kL C_own_by hr (aC (kL C_sure_many hr (aC (vL 0) a0) (by decide)) a0) (by decide)) a0) (by decide)) (aC (ix hu (vL 2) cN) (aC (ix hu (vL 2) cN) a0))) (by decide)) cN) (SC SX S0) S0) (SC (sR (vL 2)) S0))))
theorem S_root_stretches : FnScope ["many"] ["many"] (defScope (top 95)) := ⟨rfl, rfl, rfl, by decide +kernel, rfl, by decide +kernel, by decide +kernel⟩
def c_root_stretches : MS := (sSeq (sRet (eCall (f_parted_by 14) (aCons (eCall f_chain_of (aCons (eCall (f_own_by 14) (aCons (eCall f_sure_many (aCons (eVar 0) aNil)) aNil)) aNil)) (aCons (eCst k_LEFT) (aCons (eCst k_RIGHT) aNil))))) sNil)
def f0_root_stretches : MF := mkF (unks 0) c_root_stretches
def t_root_stretches_0 : Tb := [([(.nat 2)], .l [(.tup 2 [(.tup 1 [(.neg 1), (.nat 1)]), (.tup 1 [(.nat 0), (.nat 1)])])]), ([(.nat 3)], .l [(.tup 2 [(.tup 1 [(.neg 1), (.nat 1)]), (.tup 1 [(.nat 0), (.nat 1)])])]), ([(.nat 4)], .l [(.tup 2 [(.tup 1 [(.neg 2), (.nat 2)]), (.tup 1 [(.neg 0), (.nat 1)])]), (.tup 2 [(.tup 1 [(.neg 1), (.nat 1)]), (.tup 1 [(.neg 2), (.nat 2)])])]), ([(.nat 5)], .l [(.tup 2 [(.tup 1 [(.neg 6), (.nat 4)]), (.tup 1 [(.neg 2), (.nat 2)])]), (.tup 2 [(.tup 1 [(.neg 14), (.nat 8)]), (.tup 1 [(.neg 6), (.nat 4)])]), (.tup 2 [(.tup 1 [(.neg 1), (.nat 1)]), (.tup 1 [(.neg 14), (.nat 8)])])])]
def t_root_stretches : Tb := t_root_stretches_0
def f_root_stretches : MF := memF t_root_stretches f0_root_stretches
theorem u_root_stretches_0 : tOk f0_root_stretches t_root_stretches_0 = true := by decide +kernel
theorem u_root_stretches : TbOk f0_root_stretches t_root_stretches := tOk_true u_root_stretches_0
theorem ok_root_stretches (Z : Fx K mg) (D0 : Dx K mg "root_stretches" 95) (C_sure_many : Cl P w K mg base 3 "sure_many" 1 f_sure_many) (C_own_by : Cl P w K mg base 18 "own_by" 1 (f_own_by 14)) (C_chain_of : Cl P w K mg base 3 "chain_of" 1 f_chain_of) (C_parted_by : Cl P w K mg base 18 "parted_by" 3 (f_parted_by 14)) : Cl P w K mg base 19 "root_stretches" 1 f_root_stretches := by
  refine cl_mem ?_ u_root_stretches
  obtain ⟨f, fd, F, hm⟩ := D0.ex
  refine ⟨f, fd, ["many"], fn_ok F S_root_stretches rfl rfl fun cdv A outer s H E hr => ?_, hm, F.kp, F.bindsN fun _ _ _ _ _ _ us hl => match us, hl with | [_], _ => rfl⟩
  have hu := hu_of hr
  exact (SC (sR (kL C_parted_by hr (aC (kL C_chain_of hr (aC (kL C_own_by hr (aC (kL C_sure_many hr (aC (vL 0) a0) (by decide)) a0) (by decide)) a0) (by decide)) (aC (gk_LEFT Z.t_LEFT) (aC (gk_RIGHT Z.t_RIGHT) a0))) (by decide))) S0)
theorem S_how_many_roots : FnScope ["many"] ["many"] (defScope (top 96)) := ⟨rfl, rfl, rfl, by decide +kernel, rfl, by decide +kernel, by decide +kernel⟩
def c_how_many_roots : MS := (sSeq (sRet (eCall f_roots_by (aCons (eCall f_chain_of (aCons (eCall (f_own_by 14) (aCons (eCall f_sure_many (aCons (eVar 0) aNil)) aNil)) aNil)) (aCons (eCst k_LEFT) (aCons (eCst k_RIGHT) aNil))))) sNil)
def f0_how_many_roots : MF := mkF (unks 0) c_how_many_roots
def t_how_many_roots_0 : Tb := [([(.nat 2)], .p (.nat 1)), ([(.nat 3)], .p (.nat 1)), ([(.nat 4)], .p (.nat 2)), ([(.nat 5)], .p (.nat 3))]
def t_how_many_roots : Tb := t_how_many_roots_0
def f_how_many_roots : MF := memF t_how_many_roots f0_how_many_roots
theorem u_how_many_roots_0 : tOk f0_how_many_roots t_how_many_roots_0 = true := by decide +kernel
theorem u_how_many_roots : TbOk f0_how_many_roots t_how_many_roots := tOk_true u_how_many_roots_0
theorem ok_how_many_roots (Z : Fx K mg) (D0 : Dx K mg "how_many_roots" 96) (C_sure_many : Cl P w K mg base 3 "sure_many" 1 f_sure_many) (C_own_by : Cl P w K mg base 18 "own_by" 1 (f_own_by 14)) (C_chain_of : Cl P w K mg base 3 "chain_of" 1 f_chain_of) (C_roots_by : Cl P w K mg base 3 "roots_by" 3 f_roots_by) : Cl P w K mg base 19 "how_many_roots" 1 f_how_many_roots := by
  refine cl_mem ?_ u_how_many_roots
  obtain ⟨f, fd, F, hm⟩ := D0.ex
  refine ⟨f, fd, ["many"], fn_ok F S_how_many_roots rfl rfl fun cdv A outer s H E hr => ?_, hm, F.kp, F.bindsN fun _ _ _ _ _ _ us hl => match us, hl with | [_], _ => rfl⟩
  have hu := hu_of hr
  exact (SC (sR (kL C_roots_by hr (aC (kL C_chain_of hr (aC (kL C_own_by hr (aC (kL C_sure_many hr (aC (vL 0) a0) (by decide)) a0) (by decide)) a0) (by decide)) (aC (gk_LEFT Z.t_LEFT) (aC (gk_RIGHT Z.t_RIGHT) a0))) (by decide))) S0)
theorem S_root_row : FnScope ["many", "stretch"] ["many", "stretch"] (defScope (top 97)) := ⟨rfl, rfl, rfl, by decide +kernel, rfl, by decide +kernel, by decide +kernel⟩
def c_root_row : MS := (sSeq (sRet (eCall f_row_by_root (aCons (eVar 0) (aCons (eCall f_sure_stretch (aCons (eVar 0) (aCons (eVar 1) aNil))) aNil)))) sNil)
def f0_root_row : MF := mkF (unks 0) c_root_row
def t_root_row_0 : Tb := [([(.nat 2), (.tup 2 [(.tup 1 [(.neg 576460752303423488), (.nat 576460752303423488)]), (.tup 1 [(.neg 0), (.nat 1)])])], .p (.tup 1 [(.nat 1), (.nat 2)])), ([(.nat 3), (.tup 2 [(.tup 1 [(.neg 1011618099685044628), (.nat 576460752303423488)]), (.tup 1 [(.neg 252904524921261156), (.nat 144115188075855872)])])], .p (.tup 1 [(.nat 1), (.nat 0), (.nat 2)])), ([(.nat 4), (.tup 2 [(.tup 1 [(.neg 3022274522684459746), (.nat 2305843009213693952)]), (.tup 1 [(.neg 1511137261342229872), (.nat 1152921504606846976)])])], .p (.tup 1 [(.nat 1), (.nat 0), (.nat 1), (.nat 2)])), ([(.nat 4), (.tup 2 [(.tup 1 [(.neg 2237589833084651074), (.nat 1152921504606846976)]), (.tup 1 [(.neg 4475179666169302148), (.nat 2305843009213693952)])])], .p (.tup 1 [(.nat 1), (.nat 0), (.nat 0), (.nat 2)])), ([(.nat 5), (.tup 2 [(.tup 1 [(.neg 3747948875155558668), (.nat 2305843009213693952)]), (.tup 1 [(.neg 7495897750311117336), (.nat 4611686018427387904)])])], .p (.tup 1 [(.nat 1), (.nat 0), (.nat 1), (.nat 1), (.nat 2)])), ([(.nat 5), (.tup 2 [(.tup 1 [(.neg 17162689481972359366), (.nat 9223372036854775808)]), (.tup 1 [(.neg 8581344740986179682), (.nat 4611686018427387904)])])], .p (.tup 1 [(.nat 1), (.nat 0), (.nat 0), (.nat 1), (.nat 2)])), ([(.nat 5), (.tup 2 [(.tup 1 [(.neg 18312306536913437474), (.nat 9223372036854775808)]), (.tup 1 [(.neg 9156153268456718736), (.nat 4611686018427387904)])])], .p (.tup 1 [(.nat 1), (.nat 0), (.nat 0), (.nat 0), (.nat 2)]))]
def t_root_row : Tb := t_root_row_0
def f_root_row : MF := memF t_root_row f0_root_row
theorem u_root_row_0 : tOk f0_root_row t_root_row_0 = true := by decide +kernel
theorem u_root_row : TbOk f0_root_row t_root_row := tOk_true u_root_row_0
theorem ok_root_row (Z : Fx K mg) (D0 : Dx K mg "root_row" 97) (C_sure_stretch : Cl P w K mg base 19 "sure_stretch" 2 f_sure_stretch) (C_row_by_root : Cl P w K mg base 19 "row_by_root" 2 f_row_by_root) : Cl P w K mg base 20 "root_row" 2 f_root_row := by
  refine cl_mem ?_ u_root_row
  obtain ⟨f, fd, F, hm⟩ := D0.ex
  refine ⟨f, fd, ["many", "stretch"], fn_ok F S_root_row rfl rfl fun cdv A outer s H E hr => ?_, hm, F.kp, F.bindsN fun _ _ _ _ _ _ us hl => match us, hl with | [_, _], _ => rfl⟩
  have hu := hu_of hr
  exact (SC (sR (kL C_row_by_root hr (aC (vL 0) (aC (kL C_sure_stretch hr (aC (vL 0) (aC (vL 1) a0)) (by decide)) a0)) (by decide))) S0)
theorem S_root_rows : FnScope ["many", "own", "stretch"] ["many"] (defScope (top 98)) := ⟨rfl, rfl, rfl, by decide +kernel, rfl, by decide +kernel, by decide +kernel⟩
def c_root_rows : MS := (sSeq (sSet 1 (eCall f_sure_many (aCons (eVar 0) aNil))) (sSeq (sRet (eLc (iSeq (eCall (f_parted_by 14) (aCons (eCall f_chain_of (aCons (eCall (f_own_by 14) (aCons (eVar 1) aNil)) aNil)) (aCons (eCst k_LEFT) (aCons (eCst k_RIGHT) aNil))))) (gNm 2) (bd0 (eCall f_row_by_root (aCons (eVar 1) (aCons (eVar 2) aNil)))) [2])) sNil))
def f0_root_rows : MF := mkF (unks 2) c_root_rows
def t_root_rows_0 : Tb := [([(.nat 2)], .l [(.tup 1 [(.nat 1), (.nat 2)])]), ([(.nat 3)], .l [(.tup 1 [(.nat 1), (.nat 0), (.nat 2)])]), ([(.nat 4)], .l [(.tup 1 [(.nat 1), (.nat 0), (.nat 1), (.nat 2)]), (.tup 1 [(.nat 1), (.nat 0), (.nat 0), (.nat 2)])]), ([(.nat 5)], .l [(.tup 1 [(.nat 1), (.nat 0), (.nat 1), (.nat 1), (.nat 2)]), (.tup 1 [(.nat 1), (.nat 0), (.nat 0), (.nat 1), (.nat 2)]), (.tup 1 [(.nat 1), (.nat 0), (.nat 0), (.nat 0), (.nat 2)])])]
def t_root_rows : Tb := t_root_rows_0
def f_root_rows : MF := memF t_root_rows f0_root_rows
theorem u_root_rows_0 : tOk f0_root_rows t_root_rows_0 = true := by decide +kernel
theorem u_root_rows : TbOk f0_root_rows t_root_rows := tOk_true u_root_rows_0
theorem ok_root_rows (Z : Fx K mg) (D0 : Dx K mg "root_rows" 98) (C_own_by : Cl P w K mg base 18 "own_by" 1 (f_own_by 14)) (C_chain_of : Cl P w K mg base 3 "chain_of" 1 f_chain_of) (C_parted_by : Cl P w K mg base 18 "parted_by" 3 (f_parted_by 14)) (C_row_by_root : Cl P w K mg base 19 "row_by_root" 2 f_row_by_root) (C_sure_many : Cl P w K mg base 3 "sure_many" 1 f_sure_many) : Cl P w K mg base 20 "root_rows" 1 f_root_rows := by
  refine cl_mem ?_ u_root_rows
  obtain ⟨f, fd, F, hm⟩ := D0.ex
  refine ⟨f, fd, ["many"], fn_ok F S_root_rows rfl rfl fun cdv A outer s H E hr => ?_, hm, F.kp, F.bindsN fun _ _ _ _ _ _ us hl => match us, hl with | [_], _ => rfl⟩
  have hu := hu_of hr
  exact (SC (sW 1 S_root_rows.nd (kL C_sure_many hr (aC (vL 0) a0) (by decide))) (SC (sR (lc0 [("stretch", 2)] S_root_rows.nd (iQ (kL C_parted_by hr (aC (kL C_chain_of hr (aC (kL C_own_by hr (aC (vC 1) a0) (by decide)) a0) (by decide)) (aC (gk_LEFT Z.t_LEFT) (aC (gk_RIGHT Z.t_RIGHT) a0))) (by decide))) (fun _ _ _ _ _ => (gL 2 S_root_rows.nd)) (fun _ _ _ _ _ => (kL C_row_by_root hr (aC (vC 1) (aC (vL 2) a0)) (by decide))))) S0))
theorem S_closer : FnScope ["many", "stretch", "beats", "held", "chain", "lap"] ["many", "stretch", "beats"] (defScope (top 99)) := ⟨rfl, rfl, rfl, by decide +kernel, rfl, by decide +kernel, by decide +kernel⟩
def c_closer : MS := (sSeq (sIf (tNot (tE (eCall f_is_within (aCons (eVar 2) (aCons (eCst (.nat 0)) (aCons (eCst (.nat 100)) aNil)))))) (sSeq sNever sNil) sNil) (sSeq (sSet 3 (eCall f_sure_stretch (aCons (eVar 0) (aCons (eVar 1) aNil)))) (sSeq (sSet 4 (eCall f_chain_of (aCons (eCall (f_own_by 14) (aCons (eVar 0) aNil)) aNil))) (sSeq (sFor (iRg1 (eVar 2)) (gNm 5) (sSeq (sSet 3 (eCall f_narrowed (aCons (eVar 4) (aCons (eVar 3) aNil)))) sNil)) (sSeq (sRet (eVar 3)) sNil)))))
def f0_closer : MF := mkF (unks 3) c_closer
def t_closer_0 : Tb := [([(.nat 2), (.tup 2 [(.tup 1 [(.neg 1), (.nat 1)]), (.tup 1 [(.nat 0), (.nat 1)])]), (.nat 60)], .p (.tup 2 [(.tup 1 [(.neg 576460752303423488), (.nat 576460752303423488)]), (.tup 1 [(.neg 0), (.nat 1)])])), ([(.nat 3), (.tup 2 [(.tup 1 [(.neg 1), (.nat 1)]), (.tup 1 [(.nat 0), (.nat 1)])]), (.nat 60)], .p (.tup 2 [(.tup 1 [(.neg 1011618099685044628), (.nat 576460752303423488)]), (.tup 1 [(.neg 252904524921261156), (.nat 144115188075855872)])])), ([(.nat 4), (.tup 2 [(.tup 1 [(.neg 2), (.nat 2)]), (.tup 1 [(.neg 0), (.nat 1)])]), (.nat 60)], .p (.tup 2 [(.tup 1 [(.neg 3022274522684459746), (.nat 2305843009213693952)]), (.tup 1 [(.neg 1511137261342229872), (.nat 1152921504606846976)])]))]
def t_closer_1 : Tb := [([(.nat 4), (.tup 2 [(.tup 1 [(.neg 1), (.nat 1)]), (.tup 1 [(.neg 2), (.nat 2)])]), (.nat 60)], .p (.tup 2 [(.tup 1 [(.neg 2237589833084651074), (.nat 1152921504606846976)]), (.tup 1 [(.neg 4475179666169302148), (.nat 2305843009213693952)])]))]
def t_closer_2 : Tb := [([(.nat 5), (.tup 2 [(.tup 1 [(.neg 6), (.nat 4)]), (.tup 1 [(.neg 2), (.nat 2)])]), (.nat 60)], .p (.tup 2 [(.tup 1 [(.neg 3747948875155558668), (.nat 2305843009213693952)]), (.tup 1 [(.neg 7495897750311117336), (.nat 4611686018427387904)])]))]
def t_closer_3 : Tb := [([(.nat 5), (.tup 2 [(.tup 1 [(.neg 14), (.nat 8)]), (.tup 1 [(.neg 6), (.nat 4)])]), (.nat 60)], .p (.tup 2 [(.tup 1 [(.neg 17162689481972359366), (.nat 9223372036854775808)]), (.tup 1 [(.neg 8581344740986179682), (.nat 4611686018427387904)])]))]
def t_closer_4 : Tb := [([(.nat 5), (.tup 2 [(.tup 1 [(.neg 1), (.nat 1)]), (.tup 1 [(.neg 14), (.nat 8)])]), (.nat 60)], .p (.tup 2 [(.tup 1 [(.neg 18312306536913437474), (.nat 9223372036854775808)]), (.tup 1 [(.neg 9156153268456718736), (.nat 4611686018427387904)])]))]
def t_closer : Tb := t_closer_0 ++ (t_closer_1 ++ (t_closer_2 ++ (t_closer_3 ++ (t_closer_4))))
def f_closer : MF := memF t_closer f0_closer
theorem u_closer_0 : tOk f0_closer t_closer_0 = true := by decide +kernel
theorem u_closer_1 : tOk f0_closer t_closer_1 = true := by decide +kernel
theorem u_closer_2 : tOk f0_closer t_closer_2 = true := by decide +kernel
theorem u_closer_3 : tOk f0_closer t_closer_3 = true := by decide +kernel
theorem u_closer_4 : tOk f0_closer t_closer_4 = true := by decide +kernel
theorem u_closer : TbOk f0_closer t_closer := (tOk_true u_closer_0).app ((tOk_true u_closer_1).app ((tOk_true u_closer_2).app ((tOk_true u_closer_3).app (tOk_true u_closer_4))))
theorem ok_closer (Z : Fx K mg) (D0 : Dx K mg "closer" 99) (C_narrowed : Cl P w K mg base 4 "narrowed" 2 f_narrowed) (C_own_by : Cl P w K mg base 18 "own_by" 1 (f_own_by 14)) (C_chain_of : Cl P w K mg base 3 "chain_of" 1 f_chain_of) (C_sure_stretch : Cl P w K mg base 19 "sure_stretch" 2 f_sure_stretch) (C_is_within : Cl P w K mg base 2 "is_within" 3 f_is_within) : Cl P w K mg base 20 "closer" 3 f_closer := by
  refine cl_mem ?_ u_closer
  obtain ⟨f, fd, F, hm⟩ := D0.ex
  refine ⟨f, fd, ["many", "stretch", "beats"], fn_ok F S_closer rfl rfl fun cdv A outer s H E hr => ?_, hm, F.kp, F.bindsN fun _ _ _ _ _ _ us hl => match us, hl with | [_, _, _], _ => rfl⟩
  have hu := hu_of hr
  exact (SC (sI (qNot (qE (kL C_is_within hr (aC (vL 2) (aC cN (aC cN a0))) (by decide)))) (SC SX S0) S0) (SC (sV 3 S_closer.nd (kL C_sure_stretch hr (aC (vL 0) (aC (vL 1) a0)) (by decide))) (SC (sV 4 S_closer.nd (kL C_chain_of hr (aC (kL C_own_by hr (aC (vL 0) a0) (by decide)) a0) (by decide))) (SC (sF PassesOwn.never (iR1 Z.b_range (vL 2)) (gL 5 S_closer.nd) (SC (sV 3 S_closer.nd (kL C_narrowed hr (aC (vL 4) (aC (vL 3) a0)) (by decide))) S0)) (SC (sR (vL 3)) S0)))))
theorem S_root_of_row : FnScope ["row", "own", "many", "rows", "side"] ["row"] (defScope (top 100)) := ⟨rfl, rfl, rfl, by decide +kernel, rfl, by decide +kernel, by decide +kernel⟩
def c_root_of_row : MS := (sSeq (sSet 1 (eCall (f_tupled 14) (aCons (eVar 0) aNil))) (sSeq (sIf (tOr (tNot (tIs flT (eVar 1))) (tNot (tE (o1 allD (eLc (iSeq (eVar 1)) (gNm 4) (bd0 (eCall f_is_within (aCons (eVar 4) (aCons (eCst (.nat 0)) (aCons (eCst (.nat 2)) aNil))))) [4]))))) (sSeq sNever sNil) sNil) (sSeq (sSet 2 (eCall f_sure_many (aCons (o1 lenD (eVar 1)) aNil))) (sSeq (sSet 3 (eCall f_middle_rows (aCons (eVar 2) aNil))) (sSeq (sIf (t2 (inA true) (eVar 1) (eVar 3)) (sSeq sNever sNil) sNil) (sSeq (sRet (o2 ixG (eCall (f_parted_by 14) (aCons (eCall f_chain_of (aCons (eCall (f_own_by 14) (aCons (eVar 2) aNil)) aNil)) (aCons (eCst k_LEFT) (aCons (eCst k_RIGHT) aNil)))) (eMt ixM (eVar 3) (aCons (eVar 1) aNil)))) sNil))))))
def f0_root_of_row : MF := mkF (unks 4) c_root_of_row
def t_root_of_row_0 : Tb := [([(.tup 1 [(.nat 1), (.nat 2)])], .p (.tup 2 [(.tup 1 [(.neg 1), (.nat 1)]), (.tup 1 [(.nat 0), (.nat 1)])])), ([(.tup 1 [(.nat 1), (.nat 0), (.nat 2)])], .p (.tup 2 [(.tup 1 [(.neg 1), (.nat 1)]), (.tup 1 [(.nat 0), (.nat 1)])])), ([(.tup 1 [(.nat 1), (.nat 0), (.nat 1), (.nat 2)])], .p (.tup 2 [(.tup 1 [(.neg 2), (.nat 2)]), (.tup 1 [(.neg 0), (.nat 1)])])), ([(.tup 1 [(.nat 1), (.nat 0), (.nat 0), (.nat 2)])], .p (.tup 2 [(.tup 1 [(.neg 1), (.nat 1)]), (.tup 1 [(.neg 2), (.nat 2)])])), ([(.tup 1 [(.nat 1), (.nat 0), (.nat 1), (.nat 1), (.nat 2)])], .p (.tup 2 [(.tup 1 [(.neg 6), (.nat 4)]), (.tup 1 [(.neg 2), (.nat 2)])])), ([(.tup 1 [(.nat 1), (.nat 0), (.nat 0), (.nat 1), (.nat 2)])], .p (.tup 2 [(.tup 1 [(.neg 14), (.nat 8)]), (.tup 1 [(.neg 6), (.nat 4)])])), ([(.tup 1 [(.nat 1), (.nat 0), (.nat 0), (.nat 0), (.nat 2)])], .p (.tup 2 [(.tup 1 [(.neg 1), (.nat 1)]), (.tup 1 [(.neg 14), (.nat 8)])]))]
def t_root_of_row : Tb := t_root_of_row_0
def f_root_of_row : MF := memF t_root_of_row f0_root_of_row
theorem u_root_of_row_0 : tOk f0_root_of_row t_root_of_row_0 = true := by decide +kernel
theorem u_root_of_row : TbOk f0_root_of_row t_root_of_row := tOk_true u_root_of_row_0
theorem ok_root_of_row (Z : Fx K mg) (D0 : Dx K mg "root_of_row" 100) (C_own_by : Cl P w K mg base 18 "own_by" 1 (f_own_by 14)) (C_chain_of : Cl P w K mg base 3 "chain_of" 1 f_chain_of) (C_parted_by : Cl P w K mg base 18 "parted_by" 3 (f_parted_by 14)) (C_middle_rows : Cl P w K mg base 8 "middle_rows" 1 f_middle_rows) (C_sure_many : Cl P w K mg base 3 "sure_many" 1 f_sure_many) (C_is_within : Cl P w K mg base 2 "is_within" 3 f_is_within) (C_tupled : Cl P w K mg base 15 "tupled" 1 (f_tupled 14)) : Cl P w K mg base 19 "root_of_row" 1 f_root_of_row := by
  refine cl_mem ?_ u_root_of_row
  obtain ⟨f, fd, F, hm⟩ := D0.ex
  refine ⟨f, fd, ["row"], fn_ok F S_root_of_row rfl rfl fun cdv A outer s H E hr => ?_, hm, F.kp, F.bindsN fun _ _ _ _ _ _ us hl => match us, hl with | [_], _ => rfl⟩
  have hu := hu_of hr
  exact (SC (sV 1 S_root_of_row.nd (kL C_tupled hr (aC (vL 0) a0) (by decide))) (SC (sI (wT (wO (qNot (qIs (is1 isT_tuple Z.b_isinstance (vL 1) (kT Z.b_tuple boot_tuple)))) (wO1 (qNot (qE (b1 (cr_all rfl) all_ok boot_all Z.b_all (lc0 [("side", 4)] S_root_of_row.nd (iQ (vL 1)) (fun _ _ _ _ _ => (gL 4 S_root_of_row.nd)) (fun _ _ _ _ _ => (kL C_is_within hr (aC (vL 4) (aC cN (aC cN a0))) (by decide)))))))))) (SC SX S0) S0) (SC (sV 2 S_root_of_row.nd (kL C_sure_many hr (aC (b1 call_len_seq len_ok boot_len Z.b_len (vL 1)) a0) (by decide))) (SC (sV 3 S_root_of_row.nd (kL C_middle_rows hr (aC (vL 2) a0) (by decide))) (SC (sI (qNin hu (vL 1) (vL 3)) (SC SX S0) S0) (SC (sR (ix hu (kL C_parted_by hr (aC (kL C_chain_of hr (aC (kL C_own_by hr (aC (vL 2) a0) (by decide)) a0) (by decide)) (aC (gk_LEFT Z.t_LEFT) (aC (gk_RIGHT Z.t_RIGHT) a0))) (by decide)) (mT (mt_indexD hu) ix_okM PySem.F.slot_list_index PySem.F.type_list_index (vL 3) (aC (vL 1) a0)))) S0))))))
theorem S_shared : FnScope ["one", "other", "first", "second"] ["one", "other"] (defScope (top 104)) := ⟨rfl, rfl, rfl, by decide +kernel, rfl, by decide +kernel, by decide +kernel⟩
def c_shared : MS := (sSeq (sPar2 2 3 (aCons (eVar 0) (aCons (eVar 1) aNil))) (sSeq (sWh 100000 (t2 neH (eVar 3) (eTup aNil)) (sSeq (sPar2 2 3 (aCons (eVar 3) (aCons (eIf (t2 gtD (o1 lenD (eVar 3)) (eCst (.nat 1))) (eCall f_rest_against (aCons (eVar 2) (aCons (eVar 3) aNil))) (eTup aNil)) aNil))) sNil)) (sSeq (sRet (eVar 2)) sNil)))
def f0_shared : MF := mkF (unks 2) c_shared
def t_shared_0 : Tb := [([(.tup 1 [(.nat 1), (.neg 0), (.neg 0), (.neg 0), (.nat 1)]), (.tup 1 [(.neg 0), (.nat 1), (.neg 0), (.neg 0), (.nat 1)])], .p (.tup 1 [(.nat 1)])), ([(.tup 1 [(.neg 0), (.neg 0), (.neg 0), (.neg 0), (.nat 1)]), (.tup 1 [(.nat 1), (.neg 0), (.neg 0), (.neg 0), (.nat 1)])], .p (.tup 1 [(.nat 1)]))]
def t_shared : Tb := t_shared_0
def f_shared : MF := memF t_shared f0_shared
theorem u_shared_0 : tOk f0_shared t_shared_0 = true := by decide +kernel
theorem u_shared : TbOk f0_shared t_shared := tOk_true u_shared_0
theorem ok_shared (Z : Fx K mg) (D0 : Dx K mg "shared" 104) (C_rest_against : Cl P w K mg base 2 "rest_against" 2 f_rest_against) : Cl P w K mg base 3 "shared" 2 f_shared := by
  refine cl_mem ?_ u_shared
  obtain ⟨f, fd, F, hm⟩ := D0.ex
  refine ⟨f, fd, ["one", "other"], fn_ok F S_shared rfl rfl fun cdv A outer s H E hr => ?_, hm, F.kp, F.bindsN fun _ _ _ _ _ _ us hl => match us, hl with | [_, _], _ => rfl⟩
  have hu := hu_of hr
  exact (SC (sP2 2 3 S_shared.nd (aC (vL 0) (aC (vL 1) a0))) (SC (sL 100000 PassesOwn.never (qNe hu (vL 3) (tU a0)) (SC (sP2 2 3 S_shared.nd (aC (vL 3) (aC (ok_if (qGt (b1 call_len_seq len_ok boot_len Z.b_len (vL 3)) cN) (kL C_rest_against hr (aC (vL 2) (aC (vL 3) a0)) (by decide)) (tU a0)) a0))) S0)) (SC (sR (vL 2)) S0)))
theorem S_has_top : FnScope ["poly"] ["poly"] (defScope (top 105)) := ⟨rfl, rfl, rfl, by decide +kernel, rfl, by decide +kernel, by decide +kernel⟩
def c_has_top : MS := (sSeq (sRet (eT (t2 gtD (eCall f_roots_by (aCons (eCall f_chain_of (aCons (eCall f_single_roots (aCons (eVar 0) aNil)) aNil)) (aCons (eCst k_LOW) (aCons (eCst k_HIGH) aNil)))) (eCst (.nat 0))))) sNil)
def f0_has_top : MF := mkF (unks 0) c_has_top
def t_has_top_0 : Tb := [([(.tup 1 [(.neg 0), (.nat 1)])], .p (.oth (.bl false))), ([(.tup 1 [(.neg 0), (.neg 0), (.nat 1)])], .p (.oth (.bl true))), ([(.tup 1 [(.neg 0), (.neg 0), (.neg 0), (.nat 1)])], .p (.oth (.bl true))), ([(.tup 1 [(.neg 0), (.nat 0), (.nat 1)])], .p (.oth (.bl false))), ([(.tup 1 [(.nat 1), (.neg 0), (.neg 0), (.nat 1)])], .p (.oth (.bl false))), ([(.tup 1 [(.nat 1), (.neg 0), (.neg 0), (.neg 0), (.nat 1)])], .p (.oth (.bl true))), ([(.tup 1 [(.neg 0), (.nat 1), (.neg 0), (.neg 0), (.nat 1)])], .p (.oth (.bl true))), ([(.tup 1 [(.neg 0), (.neg 0), (.neg 0), (.neg 0), (.nat 1)])], .p (.oth (.bl true)))]
def t_has_top : Tb := t_has_top_0
def f_has_top : MF := memF t_has_top f0_has_top
theorem u_has_top_0 : tOk f0_has_top t_has_top_0 = true := by decide +kernel
theorem u_has_top : TbOk f0_has_top t_has_top := tOk_true u_has_top_0
theorem ok_has_top (Z : Fx K mg) (D0 : Dx K mg "has_top" 105) (C_single_roots : Cl P w K mg base 4 "single_roots" 1 f_single_roots) (C_chain_of : Cl P w K mg base 3 "chain_of" 1 f_chain_of) (C_roots_by : Cl P w K mg base 3 "roots_by" 3 f_roots_by) : Cl P w K mg base 5 "has_top" 1 f_has_top := by
  refine cl_mem ?_ u_has_top
  obtain ⟨f, fd, F, hm⟩ := D0.ex
  refine ⟨f, fd, ["poly"], fn_ok F S_has_top rfl rfl fun cdv A outer s H E hr => ?_, hm, F.kp, F.bindsN fun _ _ _ _ _ _ us hl => match us, hl with | [_], _ => rfl⟩
  have hu := hu_of hr
  exact (SC (sR (eGt (kL C_roots_by hr (aC (kL C_chain_of hr (aC (kL C_single_roots hr (aC (vL 0) a0) (by decide)) a0) (by decide)) (aC (gk_LOW Z.t_LOW) (aC (gk_HIGH Z.t_HIGH) a0))) (by decide)) cN)) S0)
theorem S_top_stretch : FnScope ["poly", "beats", "chain", "low", "high", "lap", "middle"] ["poly", "beats"] (defScope (top 106)) := ⟨rfl, rfl, rfl, by decide +kernel, rfl, by decide +kernel, by decide +kernel⟩
def c_top_stretch : MS := (sSeq (sSet 2 (eCall f_chain_of (aCons (eCall f_single_roots (aCons (eVar 0) aNil)) aNil))) (sSeq (sPar2 3 4 (aCons (eCst k_LOW) (aCons (eCst k_HIGH) aNil))) (sSeq (sIf (t2 eqH (eCall f_roots_by (aCons (eVar 2) (aCons (eVar 3) (aCons (eVar 4) aNil)))) (eCst (.nat 0))) (sSeq (sRet (eTup (aCons (eCst k_LOW) (aCons (eCst k_LOW) aNil)))) sNil) sNil) (sSeq (sFor (iRg1 (eVar 1)) (gNm 5) (sSeq (sSet 6 (eCall f_halfway (aCons (eVar 3) (aCons (eVar 4) aNil)))) (sSeq (sAsg (gTl 2 (gsCons (gNm 3) (gsCons (gNm 4) gsNil))) (eIf (t2 gtD (eCall f_roots_by (aCons (eVar 2) (aCons (eVar 6) (aCons (eVar 4) aNil)))) (eCst (.nat 0))) (eTup (aCons (eVar 6) (aCons (eVar 4) aNil))) (eTup (aCons (eVar 3) (aCons (eVar 6) aNil))))) sNil))) (sSeq (sRet (eTup (aCons (eVar 3) (aCons (eVar 4) aNil)))) sNil)))))
def f0_top_stretch : MF := mkF (unks 5) c_top_stretch
def t_top_stretch_0 : Tb := [([(.tup 1 [(.neg 0), (.neg 0), (.neg 0), (.nat 1)]), (.nat 1)], .p (.tup 2 [(.tup 1 [(.nat 3), (.nat 2)]), (.tup 1 [(.nat 2), (.nat 1)])])), ([(.tup 1 [(.nat 1), (.neg 0), (.neg 0), (.nat 1)]), (.nat 1)], .p (.tup 2 [(.tup 1 [(.nat 1), (.nat 1)]), (.tup 1 [(.nat 1), (.nat 1)])])), ([(.tup 1 [(.nat 1), (.neg 0), (.neg 0), (.neg 0), (.nat 1)]), (.nat 1)], .p (.tup 2 [(.tup 1 [(.nat 3), (.nat 2)]), (.tup 1 [(.nat 2), (.nat 1)])])), ([(.tup 1 [(.neg 0), (.nat 1), (.neg 0), (.neg 0), (.nat 1)]), (.nat 1)], .p (.tup 2 [(.tup 1 [(.nat 3), (.nat 2)]), (.tup 1 [(.nat 2), (.nat 1)])])), ([(.tup 1 [(.nat 1), (.neg 0), (.neg 0), (.neg 0), (.nat 1)]), (.nat 2)], .p (.tup 2 [(.tup 1 [(.nat 3), (.nat 2)]), (.tup 1 [(.nat 7), (.nat 4)])])), ([(.tup 1 [(.neg 0), (.nat 1), (.neg 0), (.neg 0), (.nat 1)]), (.nat 2)], .p (.tup 2 [(.tup 1 [(.nat 3), (.nat 2)]), (.tup 1 [(.nat 7), (.nat 4)])])), ([(.tup 1 [(.nat 1), (.neg 0), (.neg 0), (.neg 0), (.nat 1)]), (.nat 3)], .p (.tup 2 [(.tup 1 [(.nat 13), (.nat 8)]), (.tup 1 [(.nat 7), (.nat 4)])])), ([(.tup 1 [(.neg 0), (.nat 1), (.neg 0), (.neg 0), (.nat 1)]), (.nat 3)], .p (.tup 2 [(.tup 1 [(.nat 3), (.nat 2)]), (.tup 1 [(.nat 13), (.nat 8)])])), ([(.tup 1 [(.neg 0), (.neg 0), (.neg 0), (.neg 0), (.nat 1)]), (.nat 1)], .p (.tup 2 [(.tup 1 [(.nat 3), (.nat 2)]), (.tup 1 [(.nat 2), (.nat 1)])])), ([(.tup 1 [(.neg 0), (.neg 0), (.neg 0), (.neg 0), (.nat 1)]), (.nat 2)], .p (.tup 2 [(.tup 1 [(.nat 7), (.nat 4)]), (.tup 1 [(.nat 2), (.nat 1)])]))]
def t_top_stretch : Tb := t_top_stretch_0
def f_top_stretch : MF := memF t_top_stretch f0_top_stretch
theorem u_top_stretch_0 : tOk f0_top_stretch t_top_stretch_0 = true := by decide +kernel
theorem u_top_stretch : TbOk f0_top_stretch t_top_stretch := tOk_true u_top_stretch_0
theorem ok_top_stretch (Z : Fx K mg) (D0 : Dx K mg "top_stretch" 106) (C_roots_by : Cl P w K mg base 3 "roots_by" 3 f_roots_by) (C_halfway : Cl P w K mg base 2 "halfway" 2 f_halfway) (C_single_roots : Cl P w K mg base 4 "single_roots" 1 f_single_roots) (C_chain_of : Cl P w K mg base 3 "chain_of" 1 f_chain_of) : Cl P w K mg base 5 "top_stretch" 2 f_top_stretch := by
  refine cl_mem ?_ u_top_stretch
  obtain ⟨f, fd, F, hm⟩ := D0.ex
  refine ⟨f, fd, ["poly", "beats"], fn_ok F S_top_stretch rfl rfl fun cdv A outer s H E hr => ?_, hm, F.kp, F.bindsN fun _ _ _ _ _ _ us hl => match us, hl with | [_, _], _ => rfl⟩
  have hu := hu_of hr
  exact (SC (sV 2 S_top_stretch.nd (kL C_chain_of hr (aC (kL C_single_roots hr (aC (vL 0) a0) (by decide)) a0) (by decide))) (SC (sP2 3 4 S_top_stretch.nd (aC (gk_LOW Z.t_LOW) (aC (gk_HIGH Z.t_HIGH) a0))) (SC (sI (qEq hu (kL C_roots_by hr (aC (vL 2) (aC (vL 3) (aC (vL 4) a0))) (by decide)) cN) (SC (sR (tU (aC (gk_LOW Z.t_LOW) (aC (gk_LOW Z.t_LOW) a0)))) S0) S0) (SC (sF PassesOwn.never (iR1 Z.b_range (vL 1)) (gL 5 S_top_stretch.nd) (SC (sV 6 S_top_stretch.nd (kL C_halfway hr (aC (vL 3) (aC (vL 4) a0)) (by decide))) (SC (sA (ok_if (qGt (kL C_roots_by hr (aC (vL 2) (aC (vL 6) (aC (vL 4) a0))) (by decide)) cN) (tU (aC (vL 6) (aC (vL 4) a0))) (tU (aC (vL 3) (aC (vL 6) a0)))) (gT (gS (gL 3 S_top_stretch.nd) (gS (gL 4 S_top_stretch.nd) g0)))) S0))) (SC (sR (tU (aC (vL 3) (aC (vL 4) a0)))) S0)))))
theorem S_same_top : FnScope ["poly", "other", "one", "two", "common", "chains", "low", "high", "middle", "own", "chain"] ["poly", "other"] (defScope (top 107)) := ⟨rfl, rfl, rfl, by decide +kernel, rfl, by decide +kernel, by decide +kernel⟩
def c_same_top : MS := (sSeq (sPar2 2 3 (aCons (eCall f_single_roots (aCons (eVar 0) aNil)) (aCons (eCall f_single_roots (aCons (eVar 1) aNil)) aNil))) (sSeq (sIf (tOr (tNot (tE (eCall f_has_top (aCons (eVar 2) aNil)))) (tNot (tE (eCall f_has_top (aCons (eVar 3) aNil))))) (sSeq (sRet (eT (t2 eqH (eCall f_has_top (aCons (eVar 2) aNil)) (eCall f_has_top (aCons (eVar 3) aNil))))) sNil) sNil) (sSeq (sSet 4 (eCall f_shared (aCons (eVar 2) (aCons (eVar 3) aNil)))) (sSeq (sIf (t2 ltD (o1 lenD (eVar 4)) (eCst (.nat 2))) (sSeq (sRet (eCst (.oth (.bl false)))) sNil) sNil) (sSeq (sSet 5 (eLc (iSeq (eTup (aCons (eVar 2) (aCons (eVar 3) (aCons (eVar 4) aNil))))) (gNm 9) (bd0 (eCall f_chain_of (aCons (eVar 9) aNil))) [9])) (sSeq (sAsg (gTl 2 (gsCons (gNm 6) (gsCons (gNm 7) gsNil))) (eTup (aCons (eCst k_LOW) (aCons (eCst k_HIGH) aNil)))) (sSeq (sWh 100000 (t2 gtD (o1 (mx1 false) (eLc (iSeq (eVar 5)) (gNm 10) (bd0 (eCall f_roots_by (aCons (eVar 10) (aCons (eVar 6) (aCons (eVar 7) aNil))))) [10])) (eCst (.nat 1))) (sSeq (sSet 8 (eCall f_halfway (aCons (eVar 6) (aCons (eVar 7) aNil)))) (sSeq (sIf (t2 gtD (o1 (mx1 false) (eLc (iSeq (eVar 5)) (gNm 10) (bd0 (eCall f_roots_by (aCons (eVar 10) (aCons (eVar 8) (aCons (eVar 7) aNil))))) [10])) (eCst (.nat 0))) (sSeq (sSet 6 (eVar 8)) sNil) (sSeq (sSet 7 (eVar 8)) sNil)) sNil))) (sSeq (sRet (eT (t2 eqH (eLc (iSeq (eVar 5)) (gNm 10) (bd0 (eCall f_roots_by (aCons (eVar 10) (aCons (eVar 6) (aCons (eVar 7) aNil))))) [10]) (eLst (aCons (eCst (.nat 1)) (aCons (eCst (.nat 1)) (aCons (eCst (.nat 1)) aNil))))))) sNil))))))))
def f0_same_top : MF := mkF (unks 9) c_same_top
def t_same_top_0 : Tb := [([(.tup 1 [(.neg 0), (.neg 0), (.neg 0), (.nat 1)]), (.tup 1 [(.nat 1), (.neg 0), (.neg 0), (.nat 1)])], .p (.oth (.bl false))), ([(.tup 1 [(.nat 1), (.neg 0), (.neg 0), (.neg 0), (.nat 1)]), (.tup 1 [(.neg 0), (.nat 1), (.neg 0), (.neg 0), (.nat 1)])], .p (.oth (.bl false))), ([(.tup 1 [(.neg 0), (.neg 0), (.neg 0), (.neg 0), (.nat 1)]), (.tup 1 [(.nat 1), (.neg 0), (.neg 0), (.neg 0), (.nat 1)])], .p (.oth (.bl false)))]
def t_same_top : Tb := t_same_top_0
def f_same_top : MF := memF t_same_top f0_same_top
theorem u_same_top_0 : tOk f0_same_top t_same_top_0 = true := by decide +kernel
theorem u_same_top : TbOk f0_same_top t_same_top := tOk_true u_same_top_0
theorem ok_same_top (Z : Fx K mg) (D0 : Dx K mg "same_top" 107) (C_roots_by : Cl P w K mg base 3 "roots_by" 3 f_roots_by) (C_halfway : Cl P w K mg base 2 "halfway" 2 f_halfway) (C_chain_of : Cl P w K mg base 3 "chain_of" 1 f_chain_of) (C_shared : Cl P w K mg base 3 "shared" 2 f_shared) (C_has_top : Cl P w K mg base 5 "has_top" 1 f_has_top) (C_single_roots : Cl P w K mg base 4 "single_roots" 1 f_single_roots) : Cl P w K mg base 6 "same_top" 2 f_same_top := by
  refine cl_mem ?_ u_same_top
  obtain ⟨f, fd, F, hm⟩ := D0.ex
  refine ⟨f, fd, ["poly", "other"], fn_ok F S_same_top rfl rfl fun cdv A outer s H E hr => ?_, hm, F.kp, F.bindsN fun _ _ _ _ _ _ us hl => match us, hl with | [_, _], _ => rfl⟩
  have hu := hu_of hr
  exact (SC (sP2 2 3 S_same_top.nd (aC (kL C_single_roots hr (aC (vL 0) a0) (by decide)) (aC (kL C_single_roots hr (aC (vL 1) a0) (by decide)) a0))) (SC (sI (wT (wO (qNot (qE (kL C_has_top hr (aC (vL 2) a0) (by decide)))) (wO1 (qNot (qE (kL C_has_top hr (aC (vL 3) a0) (by decide))))))) (SC (sR (eEq hu (kL C_has_top hr (aC (vL 2) a0) (by decide)) (kL C_has_top hr (aC (vL 3) a0) (by decide)))) S0) S0) (SC (sV 4 S_same_top.nd (kL C_shared hr (aC (vL 2) (aC (vL 3) a0)) (by decide))) (SC (sI (qLt (b1 call_len_seq len_ok boot_len Z.b_len (vL 4)) cN) (SC (sR ok_bl) S0) S0) (SC (sc0 5 [("own", 9)] S_same_top.nd (iQ (tU (aC (vL 2) (aC (vL 3) (aC (vL 4) a0))))) (fun _ _ _ _ _ => (gL 9 S_same_top.nd)) (fun _ _ _ _ _ => (kL C_chain_of hr (aC (vL 9) a0) (by decide)))) (SC (sA (tU (aC (gk_LOW Z.t_LOW) (aC (gk_HIGH Z.t_HIGH) a0))) (gT (gS (gC 6 S_same_top.nd) (gS (gC 7 S_same_top.nd) g0)))) (SC (sL 100000 PassesOwn.never (qGt (b1 (cr_max rfl) max1_ok boot_max Z.b_max (lc0 [("chain", 10)] S_same_top.nd (iQ (vL 5)) (fun _ _ _ _ _ => (gL 10 S_same_top.nd)) (fun _ _ _ _ _ => (kL C_roots_by hr (aC (vL 10) (aC (vC 6) (aC (vC 7) a0))) (by decide))))) cN) (SC (sW 8 S_same_top.nd (kL C_halfway hr (aC (vC 6) (aC (vC 7) a0)) (by decide))) (SC (sI (qGt (b1 (cr_max rfl) max1_ok boot_max Z.b_max (lc0 [("chain", 10)] S_same_top.nd (iQ (vL 5)) (fun _ _ _ _ _ => (gL 10 S_same_top.nd)) (fun _ _ _ _ _ => (kL C_roots_by hr (aC (vL 10) (aC (vC 8) (aC (vC 7) a0))) (by decide))))) cN) (SC (sW 6 S_same_top.nd (vC 8)) S0) (SC (sW 7 S_same_top.nd (vC 8)) S0)) S0))) (SC (sR (eEq hu (lc0 [("chain", 10)] S_same_top.nd (iQ (vL 5)) (fun _ _ _ _ _ => (gL 10 S_same_top.nd)) (fun _ _ _ _ _ => (kL C_roots_by hr (aC (vL 10) (aC (vC 6) (aC (vC 7) a0))) (by decide)))) (lS (aC cN (aC cN (aC cN a0)))))) S0))))))))
theorem S_compared_top : FnScope ["poly", "other", "beats", "one", "two"] ["poly", "other"] (defScope (top 108)) := ⟨rfl, rfl, rfl, by decide +kernel, rfl, by decide +kernel, by decide +kernel⟩
def c_compared_top : MS := (sSeq (sIf (tE (eCall f_same_top (aCons (eVar 0) (aCons (eVar 1) aNil)))) (sSeq (sRet (eCst (.nat 0))) sNil) sNil) (sSeq (sPar3 2 3 4 (aCons (eCst (.nat 0)) (aCons (eTup (aCons (eCst k_LOW) (aCons (eCst k_HIGH) aNil))) (aCons (eTup (aCons (eCst k_LOW) (aCons (eCst k_HIGH) aNil))) aNil)))) (sSeq (sWh 100000 (tAnd (tE (eCall f_is_less (aCons (o2 ixG (eVar 4) (eCst (.nat 0))) (aCons (o2 ixG (eVar 3) (eCst (.nat 1))) aNil)))) (tE (eCall f_is_less (aCons (o2 ixG (eVar 3) (eCst (.nat 0))) (aCons (o2 ixG (eVar 4) (eCst (.nat 1))) aNil))))) (sSeq (sSet 2 (o2 addD (eVar 2) (eCst (.nat 1)))) (sSeq (sPar2 3 4 (aCons (eCall f_top_stretch (aCons (eVar 0) (aCons (eVar 2) aNil))) (aCons (eCall f_top_stretch (aCons (eVar 1) (aCons (eVar 2) aNil))) aNil))) sNil))) (sSeq (sRet (eIf (tE (eCall f_is_less (aCons (o2 ixG (eVar 4) (eCst (.nat 0))) (aCons (o2 ixG (eVar 3) (eCst (.nat 1))) aNil)))) (eCst (.nat 1)) (o1 negD (eCst (.nat 1))))) sNil))))
def f0_compared_top : MF := mkF (unks 3) c_compared_top
def t_compared_top_0 : Tb := [([(.tup 1 [(.neg 0), (.neg 0), (.neg 0), (.nat 1)]), (.tup 1 [(.nat 1), (.neg 0), (.neg 0), (.nat 1)])], .p (.nat 1)), ([(.tup 1 [(.nat 1), (.neg 0), (.neg 0), (.neg 0), (.nat 1)]), (.tup 1 [(.neg 0), (.nat 1), (.neg 0), (.neg 0), (.nat 1)])], .p (.nat 1)), ([(.tup 1 [(.neg 0), (.neg 0), (.neg 0), (.neg 0), (.nat 1)]), (.tup 1 [(.nat 1), (.neg 0), (.neg 0), (.neg 0), (.nat 1)])], .p (.nat 1))]
def t_compared_top : Tb := t_compared_top_0
def f_compared_top : MF := memF t_compared_top f0_compared_top
theorem u_compared_top_0 : tOk f0_compared_top t_compared_top_0 = true := by decide +kernel
theorem u_compared_top : TbOk f0_compared_top t_compared_top := tOk_true u_compared_top_0
theorem ok_compared_top (Z : Fx K mg) (D0 : Dx K mg "compared_top" 108) (C_is_less : Cl P w K mg base 1 "is_less" 2 f_is_less) (C_top_stretch : Cl P w K mg base 5 "top_stretch" 2 f_top_stretch) (C_same_top : Cl P w K mg base 6 "same_top" 2 f_same_top) : Cl P w K mg base 7 "compared_top" 2 f_compared_top := by
  refine cl_mem ?_ u_compared_top
  obtain ⟨f, fd, F, hm⟩ := D0.ex
  refine ⟨f, fd, ["poly", "other"], fn_ok F S_compared_top rfl rfl fun cdv A outer s H E hr => ?_, hm, F.kp, F.bindsN fun _ _ _ _ _ _ us hl => match us, hl with | [_, _], _ => rfl⟩
  have hu := hu_of hr
  exact (SC (sI (qE (kL C_same_top hr (aC (vL 0) (aC (vL 1) a0)) (by decide))) (SC (sR cN) S0) S0) (SC (sP3 2 3 4 S_compared_top.nd (aC cN (aC (tU (aC (gk_LOW Z.t_LOW) (aC (gk_HIGH Z.t_HIGH) a0))) (aC (tU (aC (gk_LOW Z.t_LOW) (aC (gk_HIGH Z.t_HIGH) a0))) a0)))) (SC (sL 100000 PassesOwn.never (wT (wA (qE (kL C_is_less hr (aC (ix hu (vL 4) cN) (aC (ix hu (vL 3) cN) a0)) (by decide))) (wA1 (qE (kL C_is_less hr (aC (ix hu (vL 3) cN) (aC (ix hu (vL 4) cN) a0)) (by decide)))))) (SC (sV 2 S_compared_top.nd (bAdd (vL 2) cN)) (SC (sP2 3 4 S_compared_top.nd (aC (kL C_top_stretch hr (aC (vL 0) (aC (vL 2) a0)) (by decide)) (aC (kL C_top_stretch hr (aC (vL 1) (aC (vL 2) a0)) (by decide)) a0))) S0))) (SC (sR (ok_if (qE (kL C_is_less hr (aC (ix hu (vL 4) cN) (aC (ix hu (vL 3) cN) a0)) (by decide))) cN (uNeg cN))) S0))))
theorem S_turns_by : FnScope ["row", "found", "sign", "side"] ["row"] (defScope (top 111)) := ⟨rfl, rfl, rfl, by decide +kernel, rfl, by decide +kernel, by decide +kernel⟩
def c_turns_by : MS := (sSeq (sPar2 1 2 (aCons (eLst (aCons (eCst (.nat 1)) aNil)) (aCons (eCst (.nat 1)) aNil))) (sSeq (sFor (iSeq (eSl (eVar 0) oNone (oSome (o1 negD (eCst (.nat 1)))))) (gNm 3) (sSeq (sSet 2 (eIf (t2 eqH (eVar 3) (eCst (.nat 1))) (o1 negD (eVar 2)) (eVar 2))) (sSeq (sExp (eMt apD (eVar 1) (aCons (eVar 2) aNil))) sNil))) (sSeq (sRet (eVar 1)) sNil)))
def f_turns_by : MF := mkF (unks 3) c_turns_by
theorem ok_turns_by (Z : Fx K mg) (D0 : Dx K mg "turns_by" 111)  : Cl P w K mg base 1 "turns_by" 1 f_turns_by := by
  obtain ⟨f, fd, F, hm⟩ := D0.ex
  refine ⟨f, fd, ["row"], fn_ok F S_turns_by rfl rfl fun cdv A outer s H E hr => ?_, hm, F.kp, F.bindsN fun _ _ _ _ _ _ us hl => match us, hl with | [_], _ => rfl⟩
  have hu := hu_of hr
  exact (SC (sP2 1 2 S_turns_by.nd (aC (lS (aC cN a0)) (aC cN a0))) (SC (sF PassesOwn.never (iQ (sl (vL 0) s0 (s1 (uNeg cN)))) (gL 3 S_turns_by.nd) (SC (sV 2 S_turns_by.nd (ok_if (qEq hu (vL 3) (gI Z.i_FAR)) (uNeg (vL 2)) (vL 2))) (SC (sEx (mT mt_append ap_ok PySem.F.slot_list_append PySem.F.type_list_append (vL 1) (aC (vL 2) a0))) S0))) (SC (sR (vL 1)) S0)))
theorem S_poly_by : FnScope ["row"] ["row"] (defScope (top 112)) := ⟨rfl, rfl, rfl, by decide +kernel, rfl, by decide +kernel, by decide +kernel⟩
def c_poly_by : MS := (sSeq (sRet (eCall f_trimmed (aCons (eRev (eCall f_turns_by (aCons (eVar 0) aNil))) aNil))) sNil)
def f_poly_by : MF := mkF (unks 0) c_poly_by
theorem ok_poly_by (Z : Fx K mg) (D0 : Dx K mg "poly_by" 112) (C_turns_by : Cl P w K mg base 1 "turns_by" 1 f_turns_by) (C_trimmed : Cl P w K mg base 1 "trimmed" 1 f_trimmed) : Cl P w K mg base 2 "poly_by" 1 f_poly_by := by
  obtain ⟨f, fd, F, hm⟩ := D0.ex
  refine ⟨f, fd, ["row"], fn_ok F S_poly_by rfl rfl fun cdv A outer s H E hr => ?_, hm, F.kp, F.bindsN fun _ _ _ _ _ _ us hl => match us, hl with | [_], _ => rfl⟩
  have hu := hu_of hr
  exact (SC (sR (kL C_trimmed hr (aC (rV (kL C_turns_by hr (aC (vL 0) a0) (by decide))) a0) (by decide))) S0)
theorem S_sure_middle_row : FnScope ["thing", "row"] ["thing"] (defScope (top 113)) := ⟨rfl, rfl, rfl, by decide +kernel, rfl, by decide +kernel, by decide +kernel⟩
def c_sure_middle_row : MS := (sSeq (sSet 1 (eCall f_sure_around (aCons (eVar 0) aNil))) (sSeq (sIf (tNot (tE (eCall f_is_middle_row_in (aCons (eVar 1) aNil)))) (sSeq sNever sNil) sNil) (sSeq (sIf (t2 gtD (o1 lenD (eVar 1)) (eCst (.nat 20))) (sSeq sNever sNil) sNil) (sSeq (sRet (eVar 1)) sNil))))
def f0_sure_middle_row : MF := mkF (unks 1) c_sure_middle_row
def t_sure_middle_row_0 : Tb := [([(.tup 1 [(.nat 1), (.nat 2)])], .p (.tup 1 [(.nat 1), (.nat 2)])), ([(.tup 1 [(.nat 1), (.nat 0), (.nat 2)])], .p (.tup 1 [(.nat 1), (.nat 0), (.nat 2)])), ([(.tup 1 [(.nat 1), (.nat 0), (.nat 0), (.nat 2)])], .p (.tup 1 [(.nat 1), (.nat 0), (.nat 0), (.nat 2)])), ([(.tup 1 [(.nat 1), (.nat 0), (.nat 1), (.nat 2)])], .p (.tup 1 [(.nat 1), (.nat 0), (.nat 1), (.nat 2)])), ([(.tup 1 [(.nat 1), (.nat 0), (.nat 0), (.nat 1), (.nat 2)])], .p (.tup 1 [(.nat 1), (.nat 0), (.nat 0), (.nat 1), (.nat 2)])), ([(.tup 1 [(.nat 1), (.nat 0), (.nat 1), (.nat 1), (.nat 2)])], .p (.tup 1 [(.nat 1), (.nat 0), (.nat 1), (.nat 1), (.nat 2)])), ([(.tup 1 [(.nat 1), (.nat 0), (.nat 0), (.nat 0), (.nat 2)])], .p (.tup 1 [(.nat 1), (.nat 0), (.nat 0), (.nat 0), (.nat 2)]))]
def t_sure_middle_row : Tb := t_sure_middle_row_0
def f_sure_middle_row : MF := memF t_sure_middle_row f0_sure_middle_row
theorem u_sure_middle_row_0 : tOk f0_sure_middle_row t_sure_middle_row_0 = true := by decide +kernel
theorem u_sure_middle_row : TbOk f0_sure_middle_row t_sure_middle_row := tOk_true u_sure_middle_row_0
theorem ok_sure_middle_row (Z : Fx K mg) (D0 : Dx K mg "sure_middle_row" 113) (C_is_middle_row_in : Cl P w K mg base 7 "is_middle_row_in" 1 f_is_middle_row_in) (C_sure_around : Cl P w K mg base 16 "sure_around" 1 f_sure_around) : Cl P w K mg base 17 "sure_middle_row" 1 f_sure_middle_row := by
  refine cl_mem ?_ u_sure_middle_row
  obtain ⟨f, fd, F, hm⟩ := D0.ex
  refine ⟨f, fd, ["thing"], fn_ok F S_sure_middle_row rfl rfl fun cdv A outer s H E hr => ?_, hm, F.kp, F.bindsN fun _ _ _ _ _ _ us hl => match us, hl with | [_], _ => rfl⟩
  have hu := hu_of hr
  exact (SC (sV 1 S_sure_middle_row.nd (kL C_sure_around hr (aC (vL 0) a0) (by decide))) (SC (sI (qNot (qE (kL C_is_middle_row_in hr (aC (vL 1) a0) (by decide)))) (SC SX S0) S0) (SC (sI (qGt (b1 call_len_seq len_ok boot_len Z.b_len (vL 1)) (gI Z.i_LONGEST_rates)) (SC SX S0) S0) (SC (sR (vL 1)) S0))))
theorem S_rate_grows : FnScope ["row"] ["row"] (defScope (top 114)) := ⟨rfl, rfl, rfl, by decide +kernel, rfl, by decide +kernel, by decide +kernel⟩
def c_rate_grows : MS := (sSeq (sRet (eCall f_has_top (aCons (eCall f_poly_by (aCons (eCall f_sure_middle_row (aCons (eVar 0) aNil)) aNil)) aNil))) sNil)
def f0_rate_grows : MF := mkF (unks 0) c_rate_grows
def t_rate_grows_0 : Tb := [([(.tup 1 [(.nat 1), (.nat 2)])], .p (.oth (.bl false))), ([(.tup 1 [(.nat 1), (.nat 0), (.nat 2)])], .p (.oth (.bl true))), ([(.tup 1 [(.nat 1), (.nat 0), (.nat 1), (.nat 2)])], .p (.oth (.bl false))), ([(.tup 1 [(.nat 1), (.nat 0), (.nat 0), (.nat 2)])], .p (.oth (.bl true))), ([(.tup 1 [(.nat 1), (.nat 0), (.nat 1), (.nat 1), (.nat 2)])], .p (.oth (.bl true))), ([(.tup 1 [(.nat 1), (.nat 0), (.nat 0), (.nat 1), (.nat 2)])], .p (.oth (.bl true))), ([(.tup 1 [(.nat 1), (.nat 0), (.nat 0), (.nat 0), (.nat 2)])], .p (.oth (.bl true)))]
def t_rate_grows : Tb := t_rate_grows_0
def f_rate_grows : MF := memF t_rate_grows f0_rate_grows
theorem u_rate_grows_0 : tOk f0_rate_grows t_rate_grows_0 = true := by decide +kernel
theorem u_rate_grows : TbOk f0_rate_grows t_rate_grows := tOk_true u_rate_grows_0
theorem ok_rate_grows (Z : Fx K mg) (D0 : Dx K mg "rate_grows" 114) (C_sure_middle_row : Cl P w K mg base 17 "sure_middle_row" 1 f_sure_middle_row) (C_poly_by : Cl P w K mg base 2 "poly_by" 1 f_poly_by) (C_has_top : Cl P w K mg base 5 "has_top" 1 f_has_top) : Cl P w K mg base 18 "rate_grows" 1 f_rate_grows := by
  refine cl_mem ?_ u_rate_grows
  obtain ⟨f, fd, F, hm⟩ := D0.ex
  refine ⟨f, fd, ["row"], fn_ok F S_rate_grows rfl rfl fun cdv A outer s H E hr => ?_, hm, F.kp, F.bindsN fun _ _ _ _ _ _ us hl => match us, hl with | [_], _ => rfl⟩
  have hu := hu_of hr
  exact (SC (sR (kL C_has_top hr (aC (kL C_poly_by hr (aC (kL C_sure_middle_row hr (aC (vL 0) a0) (by decide)) a0) (by decide)) a0) (by decide))) S0)
theorem S_rate_compared : FnScope ["row", "other", "one", "two"] ["row", "other"] (defScope (top 115)) := ⟨rfl, rfl, rfl, by decide +kernel, rfl, by decide +kernel, by decide +kernel⟩
def c_rate_compared : MS := (sSeq (sPar2 2 3 (aCons (eCall f_sure_around (aCons (eVar 0) aNil)) (aCons (eCall f_sure_around (aCons (eVar 1) aNil)) aNil))) (sSeq (sIf (tOr (tNot (tE (eCall f_is_middle_row_in (aCons (eVar 2) aNil)))) (tNot (tE (eCall f_is_middle_row_in (aCons (eVar 3) aNil))))) (sSeq sNever sNil) sNil) (sSeq (sRet (eCall f_compared_top (aCons (eCall f_poly_by (aCons (eCall f_sure_middle_row (aCons (eVar 2) aNil)) aNil)) (aCons (eCall f_poly_by (aCons (eCall f_sure_middle_row (aCons (eVar 3) aNil)) aNil)) aNil)))) sNil)))
def f0_rate_compared : MF := mkF (unks 2) c_rate_compared
def t_rate_compared_0 : Tb := [([(.tup 1 [(.nat 1), (.nat 0), (.nat 0), (.nat 2)]), (.tup 1 [(.nat 1), (.nat 0), (.nat 1), (.nat 2)])], .p (.nat 1)), ([(.tup 1 [(.nat 1), (.nat 0), (.nat 0), (.nat 1), (.nat 2)]), (.tup 1 [(.nat 1), (.nat 0), (.nat 1), (.nat 1), (.nat 2)])], .p (.nat 1)), ([(.tup 1 [(.nat 1), (.nat 0), (.nat 0), (.nat 0), (.nat 2)]), (.tup 1 [(.nat 1), (.nat 0), (.nat 0), (.nat 1), (.nat 2)])], .p (.nat 1))]
def t_rate_compared : Tb := t_rate_compared_0
def f_rate_compared : MF := memF t_rate_compared f0_rate_compared
theorem u_rate_compared_0 : tOk f0_rate_compared t_rate_compared_0 = true := by decide +kernel
theorem u_rate_compared : TbOk f0_rate_compared t_rate_compared := tOk_true u_rate_compared_0
theorem ok_rate_compared (Z : Fx K mg) (D0 : Dx K mg "rate_compared" 115) (C_sure_middle_row : Cl P w K mg base 17 "sure_middle_row" 1 f_sure_middle_row) (C_poly_by : Cl P w K mg base 2 "poly_by" 1 f_poly_by) (C_compared_top : Cl P w K mg base 7 "compared_top" 2 f_compared_top) (C_is_middle_row_in : Cl P w K mg base 7 "is_middle_row_in" 1 f_is_middle_row_in) (C_sure_around : Cl P w K mg base 16 "sure_around" 1 f_sure_around) : Cl P w K mg base 18 "rate_compared" 2 f_rate_compared := by
  refine cl_mem ?_ u_rate_compared
  obtain ⟨f, fd, F, hm⟩ := D0.ex
  refine ⟨f, fd, ["row", "other"], fn_ok F S_rate_compared rfl rfl fun cdv A outer s H E hr => ?_, hm, F.kp, F.bindsN fun _ _ _ _ _ _ us hl => match us, hl with | [_, _], _ => rfl⟩
  have hu := hu_of hr
  exact (SC (sP2 2 3 S_rate_compared.nd (aC (kL C_sure_around hr (aC (vL 0) a0) (by decide)) (aC (kL C_sure_around hr (aC (vL 1) a0) (by decide)) a0))) (SC (sI (wT (wO (qNot (qE (kL C_is_middle_row_in hr (aC (vL 2) a0) (by decide)))) (wO1 (qNot (qE (kL C_is_middle_row_in hr (aC (vL 3) a0) (by decide))))))) (SC SX S0) S0) (SC (sR (kL C_compared_top hr (aC (kL C_poly_by hr (aC (kL C_sure_middle_row hr (aC (vL 2) a0) (by decide)) a0) (by decide)) (aC (kL C_poly_by hr (aC (kL C_sure_middle_row hr (aC (vL 3) a0) (by decide)) a0) (by decide)) a0)) (by decide))) S0)))
theorem S__law_box : FnScope ["script", "k", "bit_so"] ["script", "k"] (defScope (top 117)) := ⟨rfl, rfl, rfl, by decide +kernel, rfl, by decide +kernel, by decide +kernel⟩
theorem ok__law_box (Z : Fx K mg) (D0 : Dx K mg "_law_box" 117) : ClS P w K mg base 1 "_law_box" (spBox K) := by
  obtain ⟨f, fd, F, hm⟩ := D0.ex
  refine ⟨f, fd, ["script", "k"], fn_box F S__law_box rfl rfl fun cdv A outer s H E l c H0 => ?_, hm, F.kp, F.bindsN fun _ _ _ _ _ _ us hl => match us, hl with | [_, _], _ => rfl⟩
  exact fi_cons (ho_set 2 S__law_box.nd (ve_ifLt (ve_v 1 PB.vk) (ve_len 0 Z.b_len PB.ln) (ve_ixv 0 PB.ix (ve_v 1 PB.vk)) (ve_weak ve_c fun _ _ => trivial)) PB.set)
    (fi_ret3 (ve_op op_mul (ve_abs Z.b_abs (ve_v 2 (PB.vl (by decide)))) (ve_intB Z.b_int (ve_abs Z.b_abs (ve_v 2 (PB.vl (by decide)))) (ve_op op_pow ve_c ve_c (C := fun _ => True) fun i j hi hj => by subst hi; subst hj; exact ⟨⟨by decide, by decide, by decide⟩, trivial⟩)) (C := (0 ≤ ·)) fun i j hi hj => ⟨.inr ⟨by omega, by omega⟩, by rcases hj with rfl | rfl <;> omega⟩)
      (ve_op0 op_add (ve_op0 op_add (ve_op op_mod (ve_int Z.b_int (ve_v 2 (PB.vl (by decide)))) ve_c (C := fun v => 0 ≤ v ∧ v < 2305843009213693952) (fun i j _ hj => by obtain ⟨z1, z2, z3⟩ := mod_in (i := i) hj (by decide); exact ⟨z1, z2, Int.lt_trans z3 (by decide)⟩)) (ve_op op_mul ve_c (ve_v 1 PB.vk) (C := (· = 0)) (fun i j hi hj => by subst hi; subst hj; exact ⟨.inr ⟨by decide, by decide⟩, by decide⟩)) (C := fun v => 0 ≤ v ∧ v < 2305843009213693952) (fun i j hi hj => by subst hj; omega)) ve_c (C := fun v => 0 ≤ v ∧ v < 2 ^ 62) (fun i j hi hj => by subst hj; omega))
      ve_c PB.ret)
theorem S__law_take : FnScope ["tin", "below_so", "drawn_so", "once_so", "wide_so", "twice_so"] ["tin", "below_so"] (defScope (top 118)) := ⟨rfl, rfl, rfl, by decide +kernel, rfl, by decide +kernel, by decide +kernel⟩
abbrev f__law_take : MF := takD
theorem ok__law_take (Z : Fx K mg) (D0 : Dx K mg "_law_take" 118) : Cl P w K mg base 2 "_law_take" 2 f__law_take := by
  obtain ⟨f, fd, F, hm⟩ := D0.ex
  refine ⟨f, fd, ["tin", "below_so"], fn_take F S__law_take rfl rfl fun cdv A outer s H E hr a y t b H0 y0 y1 t0 t1 b0 b1 => ?_, hm, F.kp, F.bindsN fun _ _ _ _ _ _ us hl => match us, hl with | [_, _], _ => rfl⟩
  exact fi_ifGt (ve_ix 0 PT.i0) ve_c
    (fi_cons (ho_set 2 S__law_take.nd (ve_op op_mod (ve_int Z.b_int (ve_ix 0 PT.i0)) (ve_v 1 PT.vb) (fun i j _ hj => mod_in hj b0)) PTd.mk)
      (fi_cons (ho_sub 0 (ve_mono (fun σ H p => p.1) (ve_op op_fdiv (ve_ix 0 PT.i0) (ve_v 1 PT.vb) (C := (0 ≤ ·)) fun i j hi hj => by subst hj; exact ⟨⟨b0, by omega⟩, Int.ediv_nonneg hi (by omega)⟩)) ve_c PTd.sub) (fi_retV 2 (PTd.ret (by omega)))))
    (fi_cons (ho_sub 0 (ve_op0 op_add (ve_ix 0 PT.i2) ve_c (C := fun v => 0 ≤ v ∧ v ≤ t + 1) (fun i j hi hj => by subst hj; omega)) ve_c (PT.sub2 (t' := t + 1)))
    (fi_cons (ho_set 3 S__law_take.nd (ve_op op_mod (ve_int Z.b_int (ve_op op_mul (ve_op0 op_add (ve_ix 0 PT.i1) (ve_op op_mul ve_c (ve_ix 0 PT.i2) (C := fun _ => True) (fun i j hi hj => by subst hi; exact ⟨.inl ⟨by decide, by decide⟩, trivial⟩)) (C := fun _ => True) (fun _ _ _ _ => trivial)) (ve_op0 op_add ve_c (ve_ix 0 PT.i2) (C := fun v => 0 ≤ v ∧ v < 2 ^ 62) (fun i j hi hj => by subst hi; omega)) (C := fun _ => True) (fun i j _ hj => ⟨.inr ⟨by omega, by omega⟩, trivial⟩))) ve_c (fun i j _ hj => by obtain ⟨z1, z2, z3⟩ := mod_in (i := i) hj (by decide); exact ⟨z1, z2, Int.lt_trans z3 (by decide)⟩)) (PT.set (L := []) (by decide) (by decide)))
    (fi_cons (ho_set 4 S__law_take.nd (ve_op0 op_add (ve_op op_mod (ve_int Z.b_int (ve_v 3 (PT.vl (by decide)))) ve_c (C := fun v => 0 ≤ v ∧ v < 2 ^ 60) (fun i j _ hj => by obtain ⟨z1, z2, z3⟩ := mod_in (i := i) hj (by decide); exact ⟨z1, z2, Int.lt_trans z3 (by decide)⟩)) ve_c (C := fun v => 0 ≤ v ∧ v < 2 ^ 62) (fun i j hi hj => by subst hj; omega)) (PT.set (L := [3]) (by decide) (by decide)))
    (fi_cons (ho_set 5 S__law_take.nd (ve_op op_mod (ve_int Z.b_int (ve_op op_mul (ve_op0 op_add (ve_op0 op_add (ve_v 3 (PT.vl (by decide))) (ve_ix 0 PT.i2) (C := fun _ => True) (fun _ _ _ _ => trivial)) (ve_op op_fdiv (ve_ix 0 PT.i1) ve_c (C := fun _ => True) (fun i j _ hj => by subst hj; exact ⟨⟨by decide, by decide⟩, trivial⟩)) (C := fun _ => True) (fun _ _ _ _ => trivial)) (ve_v 4 (PT.vl (by decide))) (C := fun _ => True) (fun i j _ hj => ⟨.inr ⟨by omega, by omega⟩, trivial⟩))) ve_c (fun i j _ hj => by obtain ⟨z1, z2, z3⟩ := mod_in (i := i) hj (by decide); exact ⟨z1, z2, Int.lt_trans z3 (by decide)⟩)) (PT.set (L := [4, 3]) (by decide) (by decide)))
    (fi_ret (ve_op op_mod (ve_int Z.b_int (ve_op op_fdiv (ve_op op_mod (ve_int Z.b_int (ve_op0 op_add (ve_op op_mul (ve_v 5 (PT.vl (by decide))) ve_c (C := fun _ => True) (fun i j hi _ => ⟨.inl ⟨by omega, by omega⟩, trivial⟩)) (ve_v 3 (PT.vl (by decide))) (C := fun _ => True) (fun _ _ _ _ => trivial))) ve_c (C := fun _ => True) (fun i j _ hj => by subst hj; exact ⟨by decide, trivial⟩)) ve_c (C := fun _ => True) (fun i j _ hj => by subst hj; exact ⟨⟨by decide, by decide⟩, trivial⟩))) (ve_v 1 PT.vb) (fun i j _ hj => mod_in hj b0)) (PT.ret (Int.le_refl _)))))))
theorem S__law_cells : FnScope ["script", "most_so", "cells_so", "k", "bit_so", "at_so"] ["script", "most_so"] (defScope (top 119)) := ⟨rfl, rfl, rfl, by decide +kernel, rfl, by decide +kernel, by decide +kernel⟩
theorem ok__law_cells (Z : Fx K mg) (D0 : Dx K mg "_law_cells" 119) : ClS P w K mg base 1 "_law_cells" (spCells K) := by
  obtain ⟨f, fd, F, hm⟩ := D0.ex
  refine ⟨f, fd, ["script", "most_so"], fn_cells F S__law_cells rfl rfl fun cdv A outer s H E l ns H0 hl hsq => ?_, hm, F.kp, F.bindsN fun _ _ _ _ _ _ us hl => match us, hl with | [_, _], _ => rfl⟩
  exact fi_cons (ho_cells S__law_cells.nd Z.b_list rfl rfl rfl rfl rfl rfl (by decide) (by decide) (by decide) (by decide) rfl rfl rfl rfl rfl rfl)
    (fi_cons (ho_loop S__law_cells.nd rfl Z.b_enumerate PassesOwn.never rfl rfl rfl rfl rfl rfl rfl rfl (by decide) (by decide) (by decide) (by decide) rfl rfl rfl rfl rfl rfl hl (by intro _; rfl)
      (fun i q xs hi => hs_cons (ho_set 5 S__law_cells.nd (ve_op op_mod (ve_int Z.b_int (ve_v 3 (PC2.v3 (by decide)))) (ve_v 1 PC2.v1) (C := (· = 0)) (fun i j _ hj => by subst hj; exact ⟨by decide, Int.emod_one _⟩)) PC2.set5)
        (hs_one (ho_sub 2 (ve_op0 op_add (ve_ixv 2 PC2.ix (ve_v 5 (PC2.v5 (by decide)))) (ve_op op_mul (ve_v 4 (PC2.v4 (by decide))) (ve_op0 op_add (ve_v 3 (PC2.v3 (by decide))) ve_c (C := fun v => 0 ≤ v ∧ v < 2 ^ 62) (fun i j hi hj => by subst hi; subst hj; omega)) (C := fun _ => True) (fun i j _ hj => ⟨.inr ⟨by omega, by omega⟩, trivial⟩)) (C := fun _ => True) (fun _ _ _ _ => trivial)) (ve_v 5 (PC2.v5 (by decide))) PC2.sub)))
      hsq) (fi_retV 2 PC1.ret))
theorem S__law_same : FnScope ["got", "due", "mine", "its"] ["got", "due"] (defScope (top 120)) := ⟨rfl, rfl, rfl, by decide +kernel, rfl, by decide +kernel, by decide +kernel⟩
def c__law_same (self : MF) : MS := (sSeq (sIf (tIs (flO flL flT) (eVar 1)) (sSeq (sIf (tOr (t2 neH (eIs flL (eVar 0)) (eIs flL (eVar 1))) (t2 neH (eIs flT (eVar 0)) (eIs flT (eVar 1)))) (sSeq (sRet (eCst (.oth (.bl false)))) sNil) sNil) (sSeq (sRet (eAnd (eT (t2 eqH (o1 lenD (eVar 0)) (o1 lenD (eVar 1)))) (o1 allD (eLc (iZp (eVar 0) (eVar 1)) (gTl 2 (gsCons (gNm 2) (gsCons (gNm 3) gsNil))) (bd0 (eCall self (aCons (eVar 2) (aCons (eVar 3) aNil)))) [2, 3])))) sNil)) sNil) (sSeq (sIf (tIsN (eVar 1)) (sSeq (sRet (eT (tIsN (eVar 0)))) sNil) sNil) (sSeq (sIf (tIs (flO flB flS) (eVar 1)) (sSeq (sRet (eAnd (eT (t2 eqH (eIs flB (eVar 0)) (eIs flB (eVar 1)))) (eAnd (eT (t2 eqH (eIs flS (eVar 0)) (eIs flS (eVar 1)))) (eT (t2 eqH (eVar 0) (eVar 1)))))) sNil) sNil) (sSeq (sRet (eAnd (eIs flI (eVar 0)) (eAnd (eNot (eIs flB (eVar 0))) (eT (t2 eqH (eVar 0) (eVar 1)))))) sNil))))
def f__law_same (n : Nat) : MF := @Nat.rec (fun _ => MF) (fun _ _ _ => false) (fun _ ih => mkF (unks 2) (c__law_same ih)) n
theorem ok__law_same (Z : Fx K mg) (D0 : Dx K mg "_law_same" 120)  : ∀ n : Nat, Cl P w K mg base (0 + n + 1) "_law_same" 2 (f__law_same n)
  | 0 => by
    obtain ⟨f, fd, F, hm⟩ := D0.ex
    exact ⟨f, fd, ["got", "due"], fn_false F S__law_same rfl, hm, F.kp, F.bindsN fun _ _ _ _ _ _ us hl => match us, hl with | [_, _], _ => rfl⟩
  | n + 1 => by
    have C_self := ok__law_same Z D0  n
    obtain ⟨f, fd, F, hm⟩ := D0.ex
    show Cl P w K mg base (0 + (n + 1) + 1) "_law_same" 2 (mkF (unks 2) (c__law_same (f__law_same n)))
    refine ⟨f, fd, ["got", "due"], fn_ok F S__law_same rfl rfl fun cdv A outer s H E hr => ?_, hm, F.kp, F.bindsN fun _ _ _ _ _ _ us hl => match us, hl with | [_, _], _ => rfl⟩
    have hu := hu_of hr
    have hk_self : 0 + n + 1 ≤ 0 + (n + 1) := Nat.le_refl _
    exact (SC (sI (qIs (is2 isT_list isT_tuple Z.b_isinstance (vL 1) (kT Z.b_list boot_list) (kT Z.b_tuple boot_tuple))) (SC (sI (wT (wO (qNe hu (is1 isT_list Z.b_isinstance (vL 0) (kT Z.b_list boot_list)) (is1 isT_list Z.b_isinstance (vL 1) (kT Z.b_list boot_list))) (wO1 (qNe hu (is1 isT_tuple Z.b_isinstance (vL 0) (kT Z.b_tuple boot_tuple)) (is1 isT_tuple Z.b_isinstance (vL 1) (kT Z.b_tuple boot_tuple)))))) (SC (sR ok_bl) S0) S0) (SC (sR (ok_eAnd (eEq hu (b1 call_len_seq len_ok boot_len Z.b_len (vL 0)) (b1 call_len_seq len_ok boot_len Z.b_len (vL 1))) (pe_one (b1 (cr_all rfl) all_ok boot_all Z.b_all (lc0 [("mine", 2), ("its", 3)] S__law_same.nd (iZ Z.b_zip (vL 0) (vL 1)) (fun _ _ _ _ _ => (gT (gS (gL 2 S__law_same.nd) (gS (gL 3 S__law_same.nd) g0)))) (fun _ _ _ _ _ => (kL C_self hr (aC (vL 2) (aC (vL 3) a0)) hk_self))))))) S0)) S0) (SC (sI (ok_isN (vL 1)) (SC (sR (ok_isN_e (vL 0))) S0) S0) (SC (sI (qIs (is2 isT_bool isT_str Z.b_isinstance (vL 1) (kT Z.b_bool boot_bool) (kT Z.b_str boot_str))) (SC (sR (ok_eAnd (eEq hu (is1 isT_bool Z.b_isinstance (vL 0) (kT Z.b_bool boot_bool)) (is1 isT_bool Z.b_isinstance (vL 1) (kT Z.b_bool boot_bool))) (ok_eAnd (eEq hu (is1 isT_str Z.b_isinstance (vL 0) (kT Z.b_str boot_str)) (is1 isT_str Z.b_isinstance (vL 1) (kT Z.b_str boot_str))) (pe_one (eEq hu (vL 0) (vL 1)))))) S0) S0) (SC (sR (ok_eAnd (is1 isT_int Z.b_isinstance (vL 0) (kT Z.b_int boot_int)) (ok_eAnd (ok_eNot (is1 isT_bool Z.b_isinstance (vL 0) (kT Z.b_bool boot_bool))) (pe_one (eEq hu (vL 0) (vL 1)))))) S0))))
theorem S__law_gcd : FnScope ["one", "two"] ["one", "two"] (defScope (top 121)) := ⟨rfl, rfl, rfl, by decide +kernel, rfl, by decide +kernel, by decide +kernel⟩
theorem ok__law_gcd (Z : Fx K mg) (D0 : Dx K mg "_law_gcd" 121)  : Cl P w K mg base 1 "_law_gcd" 2 f__law_gcd := by
  refine cl_fst ?_ ok_F__law_gcd
  obtain ⟨f, fd, F, hm⟩ := D0.ex
  refine ⟨f, fd, ["one", "two"], fn_ok F S__law_gcd rfl rfl fun cdv A outer s H E hr => ?_, hm, F.kp, F.bindsN fun _ _ _ _ _ _ us hl => match us, hl with | [_, _], _ => rfl⟩
  have hu := hu_of hr
  exact (SC (sL 100000 PassesOwn.never (qNe hu (vL 1) cN) (SC (sP2 0 1 S__law_gcd.nd (aC (vL 1) (aC (bMod (vL 0) (vL 1)) a0))) S0)) (SC (sR (b1 call_abs abs_ok boot_abs Z.b_abs (vL 0))) S0))
theorem S__law_low : FnScope ["above_so", "below_so", "both_so"] ["above_so", "below_so"] (defScope (top 122)) := ⟨rfl, rfl, rfl, by decide +kernel, rfl, by decide +kernel, by decide +kernel⟩
theorem ok__law_low (Z : Fx K mg) (D0 : Dx K mg "_law_low" 122) (C__law_gcd : Cl P w K mg base 1 "_law_gcd" 2 f__law_gcd) : Cl P w K mg base 2 "_law_low" 2 f__law_low := by
  refine cl_fst ?_ ok_F__law_low
  obtain ⟨f, fd, F, hm⟩ := D0.ex
  refine ⟨f, fd, ["above_so", "below_so"], fn_ok F S__law_low rfl rfl fun cdv A outer s H E hr => ?_, hm, F.kp, F.bindsN fun _ _ _ _ _ _ us hl => match us, hl with | [_, _], _ => rfl⟩
  have hu := hu_of hr
  exact (SC (sV 2 S__law_low.nd (kL C__law_gcd hr (aC (vL 0) (aC (vL 1) a0)) (by decide))) (SC (sR (tU (aC (bDiv (vL 0) (vL 2)) (aC (bDiv (vL 1) (vL 2)) a0)))) S0))
theorem S__law_two : FnScope ["place"] ["place"] (defScope (top 123)) := ⟨rfl, rfl, rfl, by decide +kernel, rfl, by decide +kernel, by decide +kernel⟩
def c__law_two : MS := (sSeq (sRet (eCall f__law_low (aCons (o2 modD (o2 mulD (o2 ixG (eVar 0) (eCst (.nat 0))) (eCst (.nat 2))) (o2 ixG (eVar 0) (eCst (.nat 1)))) (aCons (o2 ixG (eVar 0) (eCst (.nat 1))) aNil)))) sNil)
def f__law_two : MF := mkF (unks 0) c__law_two
theorem ok__law_two (Z : Fx K mg) (D0 : Dx K mg "_law_two" 123) (C__law_low : Cl P w K mg base 2 "_law_low" 2 f__law_low) : Cl P w K mg base 3 "_law_two" 1 f__law_two := by
  obtain ⟨f, fd, F, hm⟩ := D0.ex
  refine ⟨f, fd, ["place"], fn_ok F S__law_two rfl rfl fun cdv A outer s H E hr => ?_, hm, F.kp, F.bindsN fun _ _ _ _ _ _ us hl => match us, hl with | [_], _ => rfl⟩
  have hu := hu_of hr
  exact (SC (sR (kL C__law_low hr (aC (bMod (bMul (ix hu (vL 0) cN) cN) (ix hu (vL 0) cN)) (aC (ix hu (vL 0) cN) a0)) (by decide))) S0)
theorem S__law_less : FnScope ["one", "two"] ["one", "two"] (defScope (top 124)) := ⟨rfl, rfl, rfl, by decide +kernel, rfl, by decide +kernel, by decide +kernel⟩
def c__law_less : MS := (sSeq (sRet (eT (t2 ltD (o2 mulD (o2 ixG (eVar 0) (eCst (.nat 0))) (o2 ixG (eVar 1) (eCst (.nat 1)))) (o2 mulD (o2 ixG (eVar 1) (eCst (.nat 0))) (o2 ixG (eVar 0) (eCst (.nat 1))))))) sNil)
def f__law_less : MF := mkF (unks 0) c__law_less
theorem ok__law_less (Z : Fx K mg) (D0 : Dx K mg "_law_less" 124)  : Cl P w K mg base 1 "_law_less" 2 f__law_less := by
  obtain ⟨f, fd, F, hm⟩ := D0.ex
  refine ⟨f, fd, ["one", "two"], fn_ok F S__law_less rfl rfl fun cdv A outer s H E hr => ?_, hm, F.kp, F.bindsN fun _ _ _ _ _ _ us hl => match us, hl with | [_, _], _ => rfl⟩
  have hu := hu_of hr
  exact (SC (sR (eLt (bMul (ix hu (vL 0) cN) (ix hu (vL 1) cN)) (bMul (ix hu (vL 1) cN) (ix hu (vL 0) cN)))) S0)
theorem S__law_rise : FnScope ["goods_so", "found", "k", "at_so"] ["goods_so"] (defScope (top 125)) := ⟨rfl, rfl, rfl, by decide +kernel, rfl, by decide +kernel, by decide +kernel⟩
def c__law_rise : MS := (sSeq (sSet 1 (o1 listA (eVar 0))) (sSeq (sFor (iRg2 (eCst (.nat 1)) (o1 lenD (eVar 1))) (gNm 2) (sSeq (sSet 3 (eVar 2)) (sSeq (sWh 100000 (tAnd (t2 gtD (eVar 3) (eCst (.nat 0))) (tE (eCall f__law_less (aCons (o2 ixG (eVar 1) (eVar 3)) (aCons (o2 ixG (eVar 1) (o2 subD (eVar 3) (eCst (.nat 1)))) aNil))))) (sSeq (sAsgZ (zTp 2 (zCons (zSub (eVar 1) (eVar 3)) (zCons (zSub (eVar 1) (o2 subD (eVar 3) (eCst (.nat 1)))) zNil))) (eTup (aCons (o2 ixG (eVar 1) (o2 subD (eVar 3) (eCst (.nat 1)))) (aCons (o2 ixG (eVar 1) (eVar 3)) aNil)))) (sSeq (sSet 3 (o2 subD (eVar 3) (eCst (.nat 1)))) sNil))) sNil))) (sSeq (sRet (eVar 1)) sNil)))
def f__law_rise : MF := mkF (unks 3) c__law_rise
theorem ok__law_rise (Z : Fx K mg) (D0 : Dx K mg "_law_rise" 125) (C__law_less : Cl P w K mg base 1 "_law_less" 2 f__law_less) : Cl P w K mg base 2 "_law_rise" 1 f__law_rise := by
  obtain ⟨f, fd, F, hm⟩ := D0.ex
  refine ⟨f, fd, ["goods_so"], fn_ok F S__law_rise rfl rfl fun cdv A outer s H E hr => ?_, hm, F.kp, F.bindsN fun _ _ _ _ _ _ us hl => match us, hl with | [_], _ => rfl⟩
  have hu := hu_of hr
  exact (SC (sV 1 S__law_rise.nd (t1 (call_listA rfl) listA_ok boot_list Z.b_list (vL 0))) (SC (sF PassesOwn.never (iR2 Z.b_range cN (b1 call_len_seq len_ok boot_len Z.b_len (vL 1))) (gL 2 S__law_rise.nd) (SC (sV 3 S__law_rise.nd (vL 2)) (SC (sL 100000 PassesOwn.never (wT (wA (qGt (vL 3) cN) (wA1 (qE (kL C__law_less hr (aC (ix hu (vL 1) (vL 3)) (aC (ix hu (vL 1) (bSub (vL 3) cN)) a0)) (by decide)))))) (SC (ok_sasgz (tU (aC (ix hu (vL 1) (bSub (vL 3) cN)) (aC (ix hu (vL 1) (vL 3)) a0))) (ok_ztp rfl (ok_zcons (ok_zsub hu (vL 1) (vL 3) (by intro _; rfl)) (ok_zcons (ok_zsub hu (vL 1) (bSub (vL 3) cN) (by intro _; rfl)) ok_znil rfl) rfl) rfl rfl) rfl rfl rfl) (SC (sV 3 S__law_rise.nd (bSub (vL 3) cN)) S0))) S0))) (SC (sR (vL 1)) S0)))
theorem S__law_orbit : FnScope ["place", "found", "own"] ["place"] (defScope (top 126)) := ⟨rfl, rfl, rfl, by decide +kernel, rfl, by decide +kernel, by decide +kernel⟩
def c__law_orbit : MS := (sSeq (sPar2 1 2 (aCons (eLst aNil) (aCons (eVar 0) aNil))) (sSeq (sWh 100000 (t2 (inA true) (eVar 2) (eVar 1)) (sSeq (sExp (eMt apD (eVar 1) (aCons (eVar 2) aNil))) (sSeq (sSet 2 (eCall f__law_two (aCons (eVar 2) aNil))) sNil))) (sSeq (sRet (eVar 1)) sNil)))
def f__law_orbit : MF := mkF (unks 2) c__law_orbit
theorem ok__law_orbit (Z : Fx K mg) (D0 : Dx K mg "_law_orbit" 126) (C__law_two : Cl P w K mg base 3 "_law_two" 1 f__law_two) : Cl P w K mg base 4 "_law_orbit" 1 f__law_orbit := by
  obtain ⟨f, fd, F, hm⟩ := D0.ex
  refine ⟨f, fd, ["place"], fn_ok F S__law_orbit rfl rfl fun cdv A outer s H E hr => ?_, hm, F.kp, F.bindsN fun _ _ _ _ _ _ us hl => match us, hl with | [_], _ => rfl⟩
  have hu := hu_of hr
  exact (SC (sP2 1 2 S__law_orbit.nd (aC (lS a0) (aC (vL 0) a0))) (SC (sL 100000 PassesOwn.never (qNin hu (vL 2) (vL 1)) (SC (sEx (mT mt_append ap_ok PySem.F.slot_list_append PySem.F.type_list_append (vL 1) (aC (vL 2) a0))) (SC (sV 2 S__law_orbit.nd (kL C__law_two hr (aC (vL 2) a0) (by decide))) S0))) (SC (sR (vL 1)) S0)))
theorem S__law_beats : FnScope ["place", "walk_so", "first_so"] ["place"] (defScope (top 127)) := ⟨rfl, rfl, rfl, by decide +kernel, rfl, by decide +kernel, by decide +kernel⟩
def c__law_beats : MS := (sSeq (sSet 1 (eCall f__law_orbit (aCons (eVar 0) aNil))) (sSeq (sSet 2 (eMt ixM (eVar 1) (aCons (eCall f__law_two (aCons (o2 ixG (eVar 1) (o1 negD (eCst (.nat 1)))) aNil)) aNil))) (sSeq (sRet (eTup (aCons (eVar 2) (aCons (o2 subD (o1 lenD (eVar 1)) (eVar 2)) aNil)))) sNil)))
def f__law_beats : MF := mkF (unks 2) c__law_beats
theorem ok__law_beats (Z : Fx K mg) (D0 : Dx K mg "_law_beats" 127) (C__law_two : Cl P w K mg base 3 "_law_two" 1 f__law_two) (C__law_orbit : Cl P w K mg base 4 "_law_orbit" 1 f__law_orbit) : Cl P w K mg base 5 "_law_beats" 1 f__law_beats := by
  obtain ⟨f, fd, F, hm⟩ := D0.ex
  refine ⟨f, fd, ["place"], fn_ok F S__law_beats rfl rfl fun cdv A outer s H E hr => ?_, hm, F.kp, F.bindsN fun _ _ _ _ _ _ us hl => match us, hl with | [_], _ => rfl⟩
  have hu := hu_of hr
  exact (SC (sV 1 S__law_beats.nd (kL C__law_orbit hr (aC (vL 0) a0) (by decide))) (SC (sV 2 S__law_beats.nd (mT (mt_indexD hu) ix_okM PySem.F.slot_list_index PySem.F.type_list_index (vL 1) (aC (kL C__law_two hr (aC (ix hu (vL 1) (uNeg cN)) a0) (by decide)) a0))) (SC (sR (tU (aC (vL 2) (aC (bSub (b1 call_len_seq len_ok boot_len Z.b_len (vL 1)) (vL 2)) a0)))) S0)))
theorem S__law_side : FnScope ["told_so", "place", "twice_so", "low_so"] ["told_so", "place"] (defScope (top 128)) := ⟨rfl, rfl, rfl, by decide +kernel, rfl, by decide +kernel, by decide +kernel⟩
def c__law_side : MS := (sSeq (sPar2 2 3 (aCons (o2 mulD (o2 mulD (eCst (.nat 2)) (o2 ixG (eVar 1) (eCst (.nat 0)))) (o2 ixG (eVar 0) (eCst (.nat 1)))) (aCons (o2 mulD (o2 ixG (eVar 0) (eCst (.nat 0))) (o2 ixG (eVar 1) (eCst (.nat 1)))) aNil))) (sSeq (sIf (t2 (inA false) (eVar 2) (eTup (aCons (eVar 3) (aCons (o2 addD (eVar 3) (o2 mulD (o2 ixG (eVar 0) (eCst (.nat 1))) (o2 ixG (eVar 1) (eCst (.nat 1))))) aNil)))) (sSeq (sRet (eCst (.nat 2))) sNil) sNil) (sSeq (sRet (eIf (t3 ltD ltD (eVar 3) (eVar 2) (o2 addD (eVar 3) (o2 mulD (o2 ixG (eVar 0) (eCst (.nat 1))) (o2 ixG (eVar 1) (eCst (.nat 1)))))) (eCst (.nat 1)) (eCst (.nat 0)))) sNil)))
def f__law_side : MF := mkF (unks 2) c__law_side
theorem ok__law_side (Z : Fx K mg) (D0 : Dx K mg "_law_side" 128)  : Cl P w K mg base 1 "_law_side" 2 f__law_side := by
  obtain ⟨f, fd, F, hm⟩ := D0.ex
  refine ⟨f, fd, ["told_so", "place"], fn_ok F S__law_side rfl rfl fun cdv A outer s H E hr => ?_, hm, F.kp, F.bindsN fun _ _ _ _ _ _ us hl => match us, hl with | [_, _], _ => rfl⟩
  have hu := hu_of hr
  exact (SC (sP2 2 3 S__law_side.nd (aC (bMul (bMul cN (ix hu (vL 1) cN)) (ix hu (vL 0) cN)) (aC (bMul (ix hu (vL 0) cN) (ix hu (vL 1) cN)) a0))) (SC (sI (qIn hu (vL 2) (tU (aC (vL 3) (aC (bAdd (vL 3) (bMul (ix hu (vL 0) cN) (ix hu (vL 1) cN))) a0)))) (SC (sR cN) S0) S0) (SC (sR (ok_if (qChLt (vL 3) (vL 2) (bAdd (vL 3) (bMul (ix hu (vL 0) cN) (ix hu (vL 1) cN)))) cN cN)) S0)))
theorem S__law_around : FnScope ["place", "own"] ["place"] (defScope (top 129)) := ⟨rfl, rfl, rfl, by decide +kernel, rfl, by decide +kernel, by decide +kernel⟩
def c__law_around : MS := (sSeq (sRet (o1 tupleD (eLc (iSeq (eCall f__law_orbit (aCons (eVar 0) aNil))) (gNm 1) (bd0 (eCall f__law_side (aCons (eVar 0) (aCons (eVar 1) aNil)))) [1]))) sNil)
def f__law_around : MF := mkF (unks 1) c__law_around
theorem ok__law_around (Z : Fx K mg) (D0 : Dx K mg "_law_around" 129) (C__law_orbit : Cl P w K mg base 4 "_law_orbit" 1 f__law_orbit) (C__law_side : Cl P w K mg base 1 "_law_side" 2 f__law_side) : Cl P w K mg base 5 "_law_around" 1 f__law_around := by
  obtain ⟨f, fd, F, hm⟩ := D0.ex
  refine ⟨f, fd, ["place"], fn_ok F S__law_around rfl rfl fun cdv A outer s H E hr => ?_, hm, F.kp, F.bindsN fun _ _ _ _ _ _ us hl => match us, hl with | [_], _ => rfl⟩
  have hu := hu_of hr
  exact (SC (sR (t1 call_tuple_of tuple_ok boot_tuple Z.b_tuple (lc0 [("own", 1)] S__law_around.nd (iQ (kL C__law_orbit hr (aC (vC 0) a0) (by decide))) (fun _ _ _ _ _ => (gL 1 S__law_around.nd)) (fun _ _ _ _ _ => (kL C__law_side hr (aC (vC 0) (aC (vL 1) a0)) (by decide)))))) S0)
theorem S__law_mirror : FnScope ["place"] ["place"] (defScope (top 130)) := ⟨rfl, rfl, rfl, by decide +kernel, rfl, by decide +kernel, by decide +kernel⟩
def c__law_mirror : MS := (sSeq (sRet (eCall f__law_low (aCons (o2 modD (o1 negD (o2 ixG (eVar 0) (eCst (.nat 0)))) (o2 ixG (eVar 0) (eCst (.nat 1)))) (aCons (o2 ixG (eVar 0) (eCst (.nat 1))) aNil)))) sNil)
def f__law_mirror : MF := mkF (unks 0) c__law_mirror
theorem ok__law_mirror (Z : Fx K mg) (D0 : Dx K mg "_law_mirror" 130) (C__law_low : Cl P w K mg base 2 "_law_low" 2 f__law_low) : Cl P w K mg base 3 "_law_mirror" 1 f__law_mirror := by
  obtain ⟨f, fd, F, hm⟩ := D0.ex
  refine ⟨f, fd, ["place"], fn_ok F S__law_mirror rfl rfl fun cdv A outer s H E hr => ?_, hm, F.kp, F.bindsN fun _ _ _ _ _ _ us hl => match us, hl with | [_], _ => rfl⟩
  have hu := hu_of hr
  exact (SC (sR (kL C__law_low hr (aC (bMod (uNeg (ix hu (vL 0) cN)) (ix hu (vL 0) cN)) (aC (ix hu (vL 0) cN) a0)) (by decide))) S0)
theorem S__law_home : FnScope ["many", "below_so", "found", "k", "own"] ["many"] (defScope (top 131)) := ⟨rfl, rfl, rfl, by decide +kernel, rfl, by decide +kernel, by decide +kernel⟩
def c__law_home : MS := (sSeq (sSet 1 (o2 subD (o2 shlD (eCst (.nat 1)) (eVar 0)) (eCst (.nat 1)))) (sSeq (sSet 2 (eLc (iRg1 (o2 max2D (eCst (.nat 1)) (eVar 1))) (gNm 3) (bd0 (eCall f__law_low (aCons (eVar 3) (aCons (eVar 1) aNil)))) [3])) (sSeq (sRet (eLc (iSeq (eVar 2)) (gNm 4) (bd1 (t2 eqH (eCall f__law_beats (aCons (eVar 4) aNil)) (eTup (aCons (eCst (.nat 0)) (aCons (eVar 0) aNil)))) (eVar 4)) [4])) sNil)))
def f0__law_home : MF := mkF (unks 4) c__law_home
def t__law_home_0 : Tb := [([(.nat 2)], .l [(.tup 1 [(.nat 1), (.nat 3)]), (.tup 1 [(.nat 2), (.nat 3)])]), ([(.nat 3)], .l [(.tup 1 [(.nat 1), (.nat 7)]), (.tup 1 [(.nat 2), (.nat 7)]), (.tup 1 [(.nat 3), (.nat 7)]), (.tup 1 [(.nat 4), (.nat 7)]), (.tup 1 [(.nat 5), (.nat 7)]), (.tup 1 [(.nat 6), (.nat 7)])]), ([(.nat 4)], .l [(.tup 1 [(.nat 1), (.nat 15)]), (.tup 1 [(.nat 2), (.nat 15)]), (.tup 1 [(.nat 1), (.nat 5)]), (.tup 1 [(.nat 4), (.nat 15)]), (.tup 1 [(.nat 2), (.nat 5)]), (.tup 1 [(.nat 7), (.nat 15)]), (.tup 1 [(.nat 8), (.nat 15)]), (.tup 1 [(.nat 3), (.nat 5)]), (.tup 1 [(.nat 11), (.nat 15)]), (.tup 1 [(.nat 4), (.nat 5)]), (.tup 1 [(.nat 13), (.nat 15)]), (.tup 1 [(.nat 14), (.nat 15)])]), ([(.nat 5)], .l [(.tup 1 [(.nat 1), (.nat 31)]), (.tup 1 [(.nat 2), (.nat 31)]), (.tup 1 [(.nat 3), (.nat 31)]), (.tup 1 [(.nat 4), (.nat 31)]), (.tup 1 [(.nat 5), (.nat 31)]), (.tup 1 [(.nat 6), (.nat 31)]), (.tup 1 [(.nat 7), (.nat 31)]), (.tup 1 [(.nat 8), (.nat 31)]), (.tup 1 [(.nat 9), (.nat 31)]), (.tup 1 [(.nat 10), (.nat 31)]), (.tup 1 [(.nat 11), (.nat 31)]), (.tup 1 [(.nat 12), (.nat 31)]), (.tup 1 [(.nat 13), (.nat 31)]), (.tup 1 [(.nat 14), (.nat 31)]), (.tup 1 [(.nat 15), (.nat 31)]), (.tup 1 [(.nat 16), (.nat 31)]), (.tup 1 [(.nat 17), (.nat 31)]), (.tup 1 [(.nat 18), (.nat 31)]), (.tup 1 [(.nat 19), (.nat 31)]), (.tup 1 [(.nat 20), (.nat 31)]), (.tup 1 [(.nat 21), (.nat 31)]), (.tup 1 [(.nat 22), (.nat 31)]), (.tup 1 [(.nat 23), (.nat 31)]), (.tup 1 [(.nat 24), (.nat 31)]), (.tup 1 [(.nat 25), (.nat 31)]), (.tup 1 [(.nat 26), (.nat 31)]), (.tup 1 [(.nat 27), (.nat 31)]), (.tup 1 [(.nat 28), (.nat 31)]), (.tup 1 [(.nat 29), (.nat 31)]), (.tup 1 [(.nat 30), (.nat 31)])])]
def t__law_home : Tb := t__law_home_0
def f__law_home : MF := memF t__law_home f0__law_home
theorem u__law_home_0 : tOk f0__law_home t__law_home_0 = true := by decide +kernel
theorem u__law_home : TbOk f0__law_home t__law_home := tOk_true u__law_home_0
theorem ok__law_home (Z : Fx K mg) (D0 : Dx K mg "_law_home" 131) (C__law_beats : Cl P w K mg base 5 "_law_beats" 1 f__law_beats) (C__law_low : Cl P w K mg base 2 "_law_low" 2 f__law_low) : Cl P w K mg base 6 "_law_home" 1 f__law_home := by
  refine cl_mem ?_ u__law_home
  obtain ⟨f, fd, F, hm⟩ := D0.ex
  refine ⟨f, fd, ["many"], fn_ok F S__law_home rfl rfl fun cdv A outer s H E hr => ?_, hm, F.kp, F.bindsN fun _ _ _ _ _ _ us hl => match us, hl with | [_], _ => rfl⟩
  have hu := hu_of hr
  exact (SC (sW 1 S__law_home.nd (bSub (bShl cN (vC 0)) cN)) (SC (sc0 2 [("k", 3)] S__law_home.nd (iR1 Z.b_range (b2 (call_max2 rfl) max2_ok boot_max Z.b_max cN (vC 1))) (fun _ _ _ _ _ => (gL 3 S__law_home.nd)) (fun _ _ _ _ _ => (kL C__law_low hr (aC (vL 3) (aC (vC 1) a0)) (by decide)))) (SC (sR (lc1 [("own", 4)] S__law_home.nd (iQ (vL 2)) (fun _ _ _ _ _ => (gL 4 S__law_home.nd)) (fun _ _ _ _ _ => (qEq hu (kL C__law_beats hr (aC (vL 4) a0) (by decide)) (tU (aC cN (aC (vC 0) a0))))) (fun _ _ _ _ _ => (vL 4)))) S0)))
theorem S__law_leaves : FnScope ["many", "open_so", "found", "place", "row_so", "low_so"] ["many"] (defScope (top 132)) := ⟨rfl, rfl, rfl, by decide +kernel, rfl, by decide +kernel, by decide +kernel⟩
def c__law_leaves : MS := (sSeq (sAsg (gTl 2 (gsCons (gNm 1) (gsCons (gNm 2) gsNil))) (eTup (aCons eDnew (aCons eDnew aNil)))) (sSeq (sFor (iSeq (eCall f__law_home (aCons (eVar 0) aNil))) (gNm 3) (sSeq (sSet 4 (eCall f__law_around (aCons (eVar 3) aNil))) (sSeq (sIf (tIsN (eGet (eVar 1) (eVar 4))) (sSeq (sSubG (eVar 3) (eVar 1) (eVar 4)) sNil) (sSeq (sSubG (eVar 3) (eVar 2) (o2 ixG (eVar 1) (eVar 4))) (sSeq (sSubG (eCst (.oth .non)) (eVar 1) (eVar 4)) sNil))) sNil))) (sSeq (sRet (eLc (iSeq (eCall f__law_rise (aCons (o1 listA (eVar 2)) aNil))) (gNm 5) (bd0 (eTup (aCons (eVar 5) (aCons (o2 ixG (eVar 2) (eVar 5)) aNil)))) [5])) sNil)))
def f0__law_leaves : MF := mkF (unks 5) c__law_leaves
def t__law_leaves_0 : Tb := [([(.nat 2)], .l [(.tup 2 [(.tup 1 [(.nat 1), (.nat 3)]), (.tup 1 [(.nat 2), (.nat 3)])])]), ([(.nat 3)], .l [(.tup 2 [(.tup 1 [(.nat 1), (.nat 7)]), (.tup 1 [(.nat 2), (.nat 7)])]), (.tup 2 [(.tup 1 [(.nat 3), (.nat 7)]), (.tup 1 [(.nat 4), (.nat 7)])]), (.tup 2 [(.tup 1 [(.nat 5), (.nat 7)]), (.tup 1 [(.nat 6), (.nat 7)])])]), ([(.nat 4)], .l [(.tup 2 [(.tup 1 [(.nat 1), (.nat 15)]), (.tup 1 [(.nat 2), (.nat 15)])]), (.tup 2 [(.tup 1 [(.nat 1), (.nat 5)]), (.tup 1 [(.nat 4), (.nat 15)])]), (.tup 2 [(.tup 1 [(.nat 2), (.nat 5)]), (.tup 1 [(.nat 3), (.nat 5)])]), (.tup 2 [(.tup 1 [(.nat 7), (.nat 15)]), (.tup 1 [(.nat 8), (.nat 15)])]), (.tup 2 [(.tup 1 [(.nat 11), (.nat 15)]), (.tup 1 [(.nat 4), (.nat 5)])]), (.tup 2 [(.tup 1 [(.nat 13), (.nat 15)]), (.tup 1 [(.nat 14), (.nat 15)])])]), ([(.nat 5)], .l [(.tup 2 [(.tup 1 [(.nat 1), (.nat 31)]), (.tup 1 [(.nat 2), (.nat 31)])]), (.tup 2 [(.tup 1 [(.nat 3), (.nat 31)]), (.tup 1 [(.nat 4), (.nat 31)])]), (.tup 2 [(.tup 1 [(.nat 5), (.nat 31)]), (.tup 1 [(.nat 6), (.nat 31)])]), (.tup 2 [(.tup 1 [(.nat 7), (.nat 31)]), (.tup 1 [(.nat 8), (.nat 31)])]), (.tup 2 [(.tup 1 [(.nat 9), (.nat 31)]), (.tup 1 [(.nat 10), (.nat 31)])]), (.tup 2 [(.tup 1 [(.nat 11), (.nat 31)]), (.tup 1 [(.nat 12), (.nat 31)])]), (.tup 2 [(.tup 1 [(.nat 13), (.nat 31)]), (.tup 1 [(.nat 18), (.nat 31)])]), (.tup 2 [(.tup 1 [(.nat 14), (.nat 31)]), (.tup 1 [(.nat 17), (.nat 31)])]), (.tup 2 [(.tup 1 [(.nat 15), (.nat 31)]), (.tup 1 [(.nat 16), (.nat 31)])]), (.tup 2 [(.tup 1 [(.nat 19), (.nat 31)]), (.tup 1 [(.nat 20), (.nat 31)])]), (.tup 2 [(.tup 1 [(.nat 21), (.nat 31)]), (.tup 1 [(.nat 22), (.nat 31)])]), (.tup 2 [(.tup 1 [(.nat 23), (.nat 31)]), (.tup 1 [(.nat 24), (.nat 31)])]), (.tup 2 [(.tup 1 [(.nat 25), (.nat 31)]), (.tup 1 [(.nat 26), (.nat 31)])]), (.tup 2 [(.tup 1 [(.nat 27), (.nat 31)]), (.tup 1 [(.nat 28), (.nat 31)])]), (.tup 2 [(.tup 1 [(.nat 29), (.nat 31)]), (.tup 1 [(.nat 30), (.nat 31)])])])]
def t__law_leaves : Tb := t__law_leaves_0
def f__law_leaves : MF := memF t__law_leaves f0__law_leaves
theorem u__law_leaves_0 : tOk f0__law_leaves t__law_leaves_0 = true := by decide +kernel
theorem u__law_leaves : TbOk f0__law_leaves t__law_leaves := tOk_true u__law_leaves_0
theorem ok__law_leaves (Z : Fx K mg) (D0 : Dx K mg "_law_leaves" 132) (C__law_rise : Cl P w K mg base 2 "_law_rise" 1 f__law_rise) (C__law_home : Cl P w K mg base 6 "_law_home" 1 f__law_home) (C__law_around : Cl P w K mg base 5 "_law_around" 1 f__law_around) : Cl P w K mg base 7 "_law_leaves" 1 f__law_leaves := by
  refine cl_mem ?_ u__law_leaves
  obtain ⟨f, fd, F, hm⟩ := D0.ex
  refine ⟨f, fd, ["many"], fn_ok F S__law_leaves rfl rfl fun cdv A outer s H E hr => ?_, hm, F.kp, F.bindsN fun _ _ _ _ _ _ us hl => match us, hl with | [_], _ => rfl⟩
  have hu := hu_of hr
  exact (SC (sA (tU (aC ok_dnew (aC ok_dnew a0))) (gT (gS (gL 1 S__law_leaves.nd) (gS (gC 2 S__law_leaves.nd) g0)))) (SC (sF PassesOwn.never (iQ (kL C__law_home hr (aC (vL 0) a0) (by decide))) (gL 3 S__law_leaves.nd) (SC (sV 4 S__law_leaves.nd (kL C__law_around hr (aC (vL 3) a0) (by decide))) (SC (sI (ok_isN (mGet hu (vL 1) (vL 4))) (SC (sU hu (vL 3) (vL 1) (vL 4)) S0) (SC (sU hu (vL 3) (vC 2) (ix hu (vL 1) (vL 4))) (SC (sU hu ok_non (vL 1) (vL 4)) S0))) S0))) (SC (sR (lc0 [("low_so", 5)] S__law_leaves.nd (iQ (kL C__law_rise hr (aC (t1 (call_listA rfl) listA_ok boot_list Z.b_list (vC 2)) a0) (by decide))) (fun _ _ _ _ _ => (gL 5 S__law_leaves.nd)) (fun _ _ _ _ _ => (tU (aC (vL 5) (aC (ix hu (vC 2) (vL 5)) a0)))))) S0)))
theorem S__law_twos : FnScope ["one", "two", "found", "own", "its"] ["one", "two"] (defScope (top 133)) := ⟨rfl, rfl, rfl, by decide +kernel, rfl, by decide +kernel, by decide +kernel⟩
def c__law_twos : MS := (sSeq (sSet 2 (eLst aNil)) (sSeq (sFor (iSeq (eVar 0)) (gNm 3) (sSeq (sExp (eMt exD (eVar 2) (aCons (eLc (iSeq (eVar 1)) (gNm 4) (bd0 (eTup (aCons (eVar 3) (aCons (eVar 4) aNil)))) [4]) aNil))) sNil)) (sSeq (sRet (eVar 2)) sNil)))
def f__law_twos : MF := mkF (unks 3) c__law_twos
theorem ok__law_twos (Z : Fx K mg) (D0 : Dx K mg "_law_twos" 133)  : Cl P w K mg base 1 "_law_twos" 2 f__law_twos := by
  obtain ⟨f, fd, F, hm⟩ := D0.ex
  refine ⟨f, fd, ["one", "two"], fn_ok F S__law_twos rfl rfl fun cdv A outer s H E hr => ?_, hm, F.kp, F.bindsN fun _ _ _ _ _ _ us hl => match us, hl with | [_, _], _ => rfl⟩
  have hu := hu_of hr
  exact (SC (sV 2 S__law_twos.nd (lS a0)) (SC (sF PassesOwn.never (iQ (vL 0)) (gC 3 S__law_twos.nd) (SC (sEx (mT mt_extend ex_ok PySem.F.slot_list_extend PySem.F.type_list_extend (vL 2) (aC (lc0 [("its", 4)] S__law_twos.nd (iQ (vL 1)) (fun _ _ _ _ _ => (gL 4 S__law_twos.nd)) (fun _ _ _ _ _ => (tU (aC (vC 3) (aC (vL 4) a0))))) a0))) S0)) (SC (sR (vL 2)) S0)))
theorem S__law_points : FnScope ["stretch_so", "many", "low_so", "high_so", "found", "own", "beat", "ends_so", "rise_so", "one", "two", "its", "edge"] ["stretch_so", "many"] (defScope (top 134)) := ⟨rfl, rfl, rfl, by decide +kernel, rfl, by decide +kernel, by decide +kernel⟩
def c__law_points : MS := (sSeq (sAsg (gTl 2 (gsCons (gNm 2) (gsCons (gNm 3) gsNil))) (eVar 0)) (sSeq (sPar2 4 5 (aCons (eLst aNil) (aCons (eTup (aCons (eVar 2) (aCons (eVar 3) aNil))) aNil))) (sSeq (sFor (iRg1 (eVar 1)) (gNm 6) (sSeq (sExp (eMt apD (eVar 4) (aCons (eVar 5) aNil))) (sSeq (sSet 7 (eLc (iSeq (eCall f__law_twos (aCons (o1 listA (eVar 5)) (aCons (o1 listA (eVar 5)) aNil)))) (gTl 2 (gsCons (gNm 9) (gsCons (gNm 10) gsNil))) (bd0 (eCall f__law_low (aCons (o2 mulD (o2 ixG (eVar 9) (eCst (.nat 0))) (o2 ixG (eVar 10) (eCst (.nat 0)))) (aCons (o2 mulD (o2 ixG (eVar 9) (eCst (.nat 1))) (o2 ixG (eVar 10) (eCst (.nat 1)))) aNil)))) [9, 10])) (sSeq (sSet 8 (eCall f__law_rise (aCons (eVar 7) aNil))) (sSeq (sSet 5 (o1 tupleD (eLc (iSeq (eTup (aCons (eTup (aCons (o2 ixG (eVar 8) (eCst (.nat 0))) (aCons (eVar 2) aNil))) (aCons (eTup (aCons (o2 ixG (eVar 8) (o1 negD (eCst (.nat 1)))) (aCons (eVar 3) aNil))) aNil)))) (gTl 2 (gsCons (gNm 11) (gsCons (gNm 12) gsNil))) (bd0 (eCall f__law_low (aCons (o2 addD (o2 mulD (o2 ixG (eVar 11) (eCst (.nat 0))) (o2 ixG (eVar 12) (eCst (.nat 1)))) (o2 mulD (o2 ixG (eVar 12) (eCst (.nat 0))) (o2 ixG (eVar 11) (eCst (.nat 1))))) (aCons (o2 mulD (o2 ixG (eVar 11) (eCst (.nat 1))) (o2 ixG (eVar 12) (eCst (.nat 1)))) aNil)))) [11, 12]))) sNil))))) (sSeq (sRet (eVar 4)) sNil))))
def f0__law_points : MF := mkF (unks 11) c__law_points
def t__law_points_0 : Tb := [([(.tup 2 [(.tup 1 [(.neg 576460752303423488), (.nat 576460752303423488)]), (.tup 1 [(.neg 0), (.nat 1)])]), (.nat 2)], .l [(.tup 2 [(.tup 1 [(.neg 576460752303423488), (.nat 576460752303423488)]), (.tup 1 [(.neg 0), (.nat 1)])]), (.tup 2 [(.tup 1 [(.neg 0), (.nat 576460752303423488)]), (.tup 1 [(.nat 1152921504606846977), (.nat 332306998946228968225951765070086144)])])])]
def t__law_points_1 : Tb := [([(.tup 2 [(.tup 1 [(.neg 1011618099685044628), (.nat 576460752303423488)]), (.tup 1 [(.neg 252904524921261156), (.nat 144115188075855872)])]), (.nat 3)], .l [(.tup 2 [(.tup 1 [(.neg 1011618099685044628), (.nat 576460752303423488)]), (.tup 1 [(.neg 252904524921261156), (.nat 144115188075855872)])]), (.tup 2 [(.tup 1 [(.nat 27513315551386275485441345974050777), (.nat 20769187434139310514121985316880384)]), (.tup 1 [(.nat 440213048822180410366758487258325177), (.nat 332306998946228968225951765070086144)])]), (.tup 2 [(.tup 1 [(.neg 4747166478249863288882880482778874729733076309359118), (.nat 431359146674410236714672241392314090778194310760649159697657763987456)]), (.tup 1 [(.nat 1265128366396122404381224886562206811452449329527342513), (.nat 110427941548649020598956093796432407239217743554726184882600387580788736)])])])]
def t__law_points_2 : Tb := [([(.tup 2 [(.tup 1 [(.neg 3022274522684459746), (.nat 2305843009213693952)]), (.tup 1 [(.neg 1511137261342229872), (.nat 1152921504606846976)])]), (.nat 4)], .l [(.tup 2 [(.tup 1 [(.neg 3022274522684459746), (.nat 2305843009213693952)]), (.tup 1 [(.neg 1511137261342229872), (.nat 1152921504606846976)])]), (.tup 2 [(.tup 1 [(.nat 541313177602740945116513348143258593), (.nat 1329227995784915872903807060280344576)]), (.tup 1 [(.nat 2165252710410963788816445447155647817), (.nat 5316911983139663491615228241121378304)])]), (.tup 2 [(.tup 1 [(.neg 2022791158396882051658595109343830899445220241021869342747753399998465086), (.nat 1766847064778384329583297500742918515827483896875618958121606201292619776)]), (.tup 1 [(.neg 32364658534350112778116139364215822718940396893932675920874384821063192878), (.nat 28269553036454149273332760011886696253239742350009903329945699220681916416)])]), (.tup 2 [(.tup 1 [(.neg 1986558151423190399326975963991887873362966525996894408579992895461709477640835435495795858294330037461723172576464994774762830174), (.nat 799167628880894011233688890827050574271641124522232614619944181664095165137859998750798362384253944616915694367080095461234681773897801038410285056)]), (.tup 1 [(.nat 5837142865874338997819930643702225932392590445148341334246149084254584196547417091307924829876224895736259838312971608480974721), (.nat 3121748550315992231381597229793166305748598142664971150859156959625371738819765620120306103063491971159826931121406622895447975679288285306290176)])])])]
def t__law_points_3 : Tb := [([(.tup 2 [(.tup 1 [(.neg 2237589833084651074), (.nat 1152921504606846976)]), (.tup 1 [(.neg 4475179666169302148), (.nat 2305843009213693952)])]), (.nat 4)], .l [(.tup 2 [(.tup 1 [(.neg 2237589833084651074), (.nat 1152921504606846976)]), (.tup 1 [(.neg 4475179666169302148), (.nat 2305843009213693952)])]), (.tup 2 [(.tup 1 [(.nat 9708171296283428623498539458140421401), (.nat 5316911983139663491615228241121378304)]), (.tup 1 [(.nat 2427042824070857158688685449923179913), (.nat 1329227995784915872903807060280344576)])]), (.tup 2 [(.tup 1 [(.nat 39383046854156245735305062694256924348286585867124120305565201412726975601), (.nat 28269553036454149273332760011886696253239742350009903329945699220681916416)]), (.tup 1 [(.nat 2461440428384765372882456748501044696200516813373710202274327707287749457), (.nat 1766847064778384329583297500742918515827483896875618958121606201292619776)])]), (.tup 2 [(.tup 1 [(.neg 4879269255737753303530208065985025296460826963488488213362009787343701444103864020554565273138107831151862170930842554751306003998), (.nat 799167628880894011233688890827050574271641124522232614619944181664095165137859998750798362384253944616915694367080095461234681773897801038410285056)]), (.tup 1 [(.nat 53311136441811971229384318651342689225687024550654356900653616099723706716577744567671018629967091994327769887090061904952491937), (.nat 3121748550315992231381597229793166305748598142664971150859156959625371738819765620120306103063491971159826931121406622895447975679288285306290176)])])])]
def t__law_points_4 : Tb := [([(.tup 2 [(.tup 1 [(.neg 3747948875155558668), (.nat 2305843009213693952)]), (.tup 1 [(.neg 7495897750311117336), (.nat 4611686018427387904)])]), (.nat 5)], .l [(.tup 2 [(.tup 1 [(.neg 3747948875155558668), (.nat 2305843009213693952)]), (.tup 1 [(.neg 7495897750311117336), (.nat 4611686018427387904)])]), (.tup 2 [(.tup 1 [(.nat 21619756232448178987189613626396092017), (.nat 21267647932558653966460912964485513216)]), (.tup 1 [(.nat 5404939058112044751698273786361428649), (.nat 5316911983139663491615228241121378304)])]), (.tup 2 [(.tup 1 [(.neg 267781652586377979083636875659239599876395180048246283156055339429949030942), (.nat 452312848583266388373324160190187140051835877600158453279131187530910662656)]), (.tup 1 [(.neg 16736353286648623633619511096594447914550138840306110211517114839940136046), (.nat 28269553036454149273332760011886696253239742350009903329945699220681916416)])]), (.tup 2 [(.tup 1 [(.neg 1018872511321737685419052895713325495823909141890495583209251460213325896170209260974509672269419717724581013283115938062736877796212936800443385822), (.nat 799167628880894011233688890827050574271641124522232614619944181664095165137859998750798362384253944616915694367080095461234681773897801038410285056)]), (.tup 1 [(.neg 260831362898364846916419381091383048106557936610787219519012427800732459248817660079595355983713800808422718543087050328360531339933683923959558045758), (.nat 204586912993508866875824356051724947013540127877691549342705710506008362275292159680204380770369009821930417757972504438076078534117837065833032974336)])]), (.tup 2 [(.tup 1 [(.neg 97590272058706700294117866240596006449479836244065614791118235166493051768670355173221881067275338727063091978465654922787031660446781955577141868919525158432751137617460996360861681064132995027569760003915006038342590347651302165951084487932419061194524055147302111360713942626430), (.nat 41855804968213567224547853478906320725054875457247406540771499545716837934567817284890561672488119458109166910841919797858872862722356017328064756151166307827869405370407152286801072676024887272960758524035337792904616958075776435777990406039363527010043736240963055342423554029893064011082834640896)]), (.tup 1 [(.nat 3034178592834283702964245967266743363494247680141242995320226896367838432118997497398827067037795475926194920941179582938090583273076225008356908972021005258646760413846413412843612508536981946770346480792231793637290560788386680205022872189374367839229814479990521314242425921), (.nat 638668899051110339730039268171788341141584403339346413280815117579907805398068501051186548957643424348589582990141598478071180156285949971436534975451146054502401815344347416485612070862196155898449074158254055677865859345638678524444433685903374130402278690200241933325554718473710083176923136)])])])]
def t__law_points_5 : Tb := [([(.tup 2 [(.tup 1 [(.neg 17162689481972359366), (.nat 9223372036854775808)]), (.tup 1 [(.neg 8581344740986179682), (.nat 4611686018427387904)])]), (.nat 5)], .l [(.tup 2 [(.tup 1 [(.neg 17162689481972359366), (.nat 9223372036854775808)]), (.tup 1 [(.neg 8581344740986179682), (.nat 4611686018427387904)])]), (.tup 2 [(.tup 1 [(.nat 34065010002339803951802263676263532105), (.nat 21267647932558653966460912964485513216)]), (.tup 1 [(.nat 136260040009359215850757805705853622961), (.nat 85070591730234615865843651857942052864)])]), (.tup 2 [(.tup 1 [(.nat 318769063247077842514367390085948407630394508929752994871600285910039888081), (.nat 452312848583266388373324160190187140051835877600158453279131187530910662656)]), (.tup 1 [(.nat 5100305011953245492882425065751632253236950354990011652876903900202337234529), (.nat 7237005577332262213973186563042994240829374041602535252466099000494570602496)])]), (.tup 2 [(.tup 1 [(.neg 279078036286747110904702348757439422557469737614875583520747566513412718640960487296075799094771242409679653308868096991801445902627667881161816036702), (.nat 204586912993508866875824356051724947013540127877691549342705710506008362275292159680204380770369009821930417757972504438076078534117837065833032974336)]), (.tup 1 [(.neg 71443977289407260256861677783664328401506622971988247942824961938538331502841813769070939116940113743441181138538790079984056126336647621325467781136190), (.nat 52374249726338269920211035149241586435466272736689036631732661889538140742474792878132321477214466514414186946040961136147476104734166288853256441430016)])]), (.tup 2 [(.tup 1 [(.neg 8180962858438785814018027211814941003116260820045152434765172042480196889998544530902865631063209625860607531244366026004788848976030889733997776302204600188180591270648372289086256081389836395094933849064446460190104068113748419862458766650111121490853554354946828200722334147134516862), (.nat 2743062034396844341627968125593604635037196317966166035056000994228098690879836473582587849768181396806642362668936055872479091931372323951612051859122835149807249350355003132267795098895967012320756270631179897595796976964454084495146379250195728106130226298287754794921070036903071843030324651025760256)]), (.tup 1 [(.nat 173484297874852417366181559190839105674777393953731295972848608129744204889411895214174926167147809117889571931478021283803012975761540934130036217062381712054715400941866748762184986636798932556736499032137408933898040432176439956191311849435694816104708307751283678679191398660417), (.nat 41855804968213567224547853478906320725054875457247406540771499545716837934567817284890561672488119458109166910841919797858872862722356017328064756151166307827869405370407152286801072676024887272960758524035337792904616958075776435777990406039363527010043736240963055342423554029893064011082834640896)])])])]
def t__law_points_6 : Tb := [([(.tup 2 [(.tup 1 [(.neg 18312306536913437474), (.nat 9223372036854775808)]), (.tup 1 [(.neg 9156153268456718736), (.nat 4611686018427387904)])]), (.nat 5)], .l [(.tup 2 [(.tup 1 [(.neg 18312306536913437474), (.nat 9223372036854775808)]), (.tup 1 [(.neg 9156153268456718736), (.nat 4611686018427387904)])]), (.tup 2 [(.tup 1 [(.nat 41609838664750573942891528425789223969), (.nat 21267647932558653966460912964485513216)]), (.tup 1 [(.nat 166439354659002295817414098813838546633), (.nat 85070591730234615865843651857942052864)])]), (.tup 2 [(.tup 1 [(.nat 833345774161320290309603189651458508734199388744394462752461203513645853761), (.nat 452312848583266388373324160190187140051835877600158453279131187530910662656)]), (.tup 1 [(.nat 13333532386581124661000106859821471029505660704961216570862897546518147803601), (.nat 7237005577332262213973186563042994240829374041602535252466099000494570602496)])]), (.tup 2 [(.tup 1 [(.nat 288273360397727207357062529578907331326809040051439377654974529287117016734973986783474792792221480818700083350732594835382940536936571858050549409921), (.nat 204586912993508866875824356051724947013540127877691549342705710506008362275292159680204380770369009821930417757972504438076078534117837065833032974336)]), (.tup 1 [(.nat 73797980261818165516998311981338473591348535904838340115477555663072259155473235840811717053573075804820296679545785196478446702847734778157371144379553), (.nat 52374249726338269920211035149241586435466272736689036631732661889538140742474792878132321477214466514414186946040961136147476104734166288853256441430016)])]), (.tup 2 [(.tup 1 [(.neg 349319848641182418235913268719474938802864693843437475686944443130030284696384112322892889755361163515876807879484680370804647821025223468245570364986728782267264873589756490616778763778129163361970770255398188635932080933075005729926804244578366595967099809744408900745533265800958), (.nat 41855804968213567224547853478906320725054875457247406540771499545716837934567817284890561672488119458109166910841919797858872862722356017328064756151166307827869405370407152286801072676024887272960758524035337792904616958075776435777990406039363527010043736240963055342423554029893064011082834640896)]), (.tup 1 [(.nat 41400555234149646560950913832245841116267055990566320389186080315619324872548811325123808602168563569810882529952231121865992918915118942409015522351986860916833725432474236540225610306878496188215501455752154664622888637749280722391598791033703054405871736631231962067131379030680837441), (.nat 2743062034396844341627968125593604635037196317966166035056000994228098690879836473582587849768181396806642362668936055872479091931372323951612051859122835149807249350355003132267795098895967012320756270631179897595796976964454084495146379250195728106130226298287754794921070036903071843030324651025760256)])])])]
def t__law_points : Tb := t__law_points_0 ++ (t__law_points_1 ++ (t__law_points_2 ++ (t__law_points_3 ++ (t__law_points_4 ++ (t__law_points_5 ++ (t__law_points_6))))))
def f__law_points : MF := memF t__law_points f0__law_points
theorem u__law_points_0 : tOk f0__law_points t__law_points_0 = true := by decide +kernel
theorem u__law_points_1 : tOk f0__law_points t__law_points_1 = true := by decide +kernel
theorem u__law_points_2 : tOk f0__law_points t__law_points_2 = true := by decide +kernel
theorem u__law_points_3 : tOk f0__law_points t__law_points_3 = true := by decide +kernel
theorem u__law_points_4 : tOk f0__law_points t__law_points_4 = true := by decide +kernel
theorem u__law_points_5 : tOk f0__law_points t__law_points_5 = true := by decide +kernel
theorem u__law_points_6 : tOk f0__law_points t__law_points_6 = true := by decide +kernel
theorem u__law_points : TbOk f0__law_points t__law_points := (tOk_true u__law_points_0).app ((tOk_true u__law_points_1).app ((tOk_true u__law_points_2).app ((tOk_true u__law_points_3).app ((tOk_true u__law_points_4).app ((tOk_true u__law_points_5).app (tOk_true u__law_points_6))))))
theorem ok__law_points (Z : Fx K mg) (D0 : Dx K mg "_law_points" 134) (C__law_low : Cl P w K mg base 2 "_law_low" 2 f__law_low) (C__law_rise : Cl P w K mg base 2 "_law_rise" 1 f__law_rise) (C__law_twos : Cl P w K mg base 1 "_law_twos" 2 f__law_twos) : Cl P w K mg base 3 "_law_points" 2 f__law_points := by
  refine cl_mem ?_ u__law_points
  obtain ⟨f, fd, F, hm⟩ := D0.ex
  refine ⟨f, fd, ["stretch_so", "many"], fn_ok F S__law_points rfl rfl fun cdv A outer s H E hr => ?_, hm, F.kp, F.bindsN fun _ _ _ _ _ _ us hl => match us, hl with | [_, _], _ => rfl⟩
  have hu := hu_of hr
  exact (SC (sA (vL 0) (gT (gS (gL 2 S__law_points.nd) (gS (gL 3 S__law_points.nd) g0)))) (SC (sP2 4 5 S__law_points.nd (aC (lS a0) (aC (tU (aC (vL 2) (aC (vL 3) a0))) a0))) (SC (sF PassesOwn.never (iR1 Z.b_range (vL 1)) (gL 6 S__law_points.nd) (SC (sEx (mT mt_append ap_ok PySem.F.slot_list_append PySem.F.type_list_append (vL 4) (aC (vL 5) a0))) (SC (sc0 7 [("one", 9), ("two", 10)] S__law_points.nd (iQ (kL C__law_twos hr (aC (t1 (call_listA rfl) listA_ok boot_list Z.b_list (vL 5)) (aC (t1 (call_listA rfl) listA_ok boot_list Z.b_list (vL 5)) a0)) (by decide))) (fun _ _ _ _ _ => (gT (gS (gL 9 S__law_points.nd) (gS (gL 10 S__law_points.nd) g0)))) (fun _ _ _ _ _ => (kL C__law_low hr (aC (bMul (ix hu (vL 9) cN) (ix hu (vL 10) cN)) (aC (bMul (ix hu (vL 9) cN) (ix hu (vL 10) cN)) a0)) (by decide)))) (SC (sV 8 S__law_points.nd (kL C__law_rise hr (aC (vL 7) a0) (by decide))) (SC (sV 5 S__law_points.nd (t1 call_tuple_of tuple_ok boot_tuple Z.b_tuple (lc0 [("its", 11), ("edge", 12)] S__law_points.nd (iQ (tU (aC (tU (aC (ix hu (vL 8) cN) (aC (vL 2) a0))) (aC (tU (aC (ix hu (vL 8) (uNeg cN)) (aC (vL 3) a0))) a0)))) (fun _ _ _ _ _ => (gT (gS (gL 11 S__law_points.nd) (gS (gL 12 S__law_points.nd) g0)))) (fun _ _ _ _ _ => (kL C__law_low hr (aC (bAdd (bMul (ix hu (vL 11) cN) (ix hu (vL 12) cN)) (bMul (ix hu (vL 12) cN) (ix hu (vL 11) cN))) (aC (bMul (ix hu (vL 11) cN) (ix hu (vL 12) cN)) a0)) (by decide)))))) S0))))) (SC (sR (vL 4)) S0))))
theorem S_law : FnScope ["script", "tin", "many", "stretches_so", "rows_so", "count_so", "got", "k", "near_so", "signs_so", "points_so", "beat", "low_so", "high_so", "side_so", "leaf", "order_so", "grows_so", "power_so", "own"] ["script"] (defScope (top 135)) := ⟨rfl, rfl, rfl, by decide +kernel, rfl, by decide +kernel, by decide +kernel⟩
def c_law : MS := (sSeq (sSet 2 (o2 addD (eCst (.nat 2)) (eCall f__law_take (aCons (eVar 1) (aCons (eCst (.nat 4)) aNil))))) (sSeq (sAsg (gTl 2 (gsCons (gNm 3) (gsCons (gNm 4) gsNil))) (eTup (aCons (eCall f_root_stretches (aCons (eVar 2) aNil)) (aCons (eCall f_root_rows (aCons (eVar 2) aNil)) aNil)))) (sSeq (sSet 5 (o1 lenD (eLc (iSeq (eCall f__law_leaves (aCons (eVar 2) aNil))) (gNm 15) (bd1 (t2 eqH (eCall f__law_mirror (aCons (o2 ixG (eVar 15) (eCst (.nat 0))) aNil)) (o2 ixG (eVar 15) (eCst (.nat 1)))) (eVar 15)) [15]))) (sSeq (sSet 6 (eLst (aCons (o1 lenD (eVar 3)) (aCons (eCall f_how_many_roots (aCons (eVar 2) aNil)) (aCons (eCall f_how_many_middle (aCons (eVar 2) aNil)) (aCons (eCall f_roots_between (aCons (eCall f_own_poly (aCons (eVar 2) aNil)) (aCons (eTup (aCons (o1 negD (eCst (.nat 2))) (aCons (eCst (.nat 1)) aNil))) (aCons (eTup (aCons (eCst (.nat 0)) (aCons (eCst (.nat 1)) aNil))) aNil)))) (aCons (eVar 4) aNil))))))) (sSeq (sIf (tNot (tE (eCall (f__law_same 14) (aCons (eVar 6) (aCons (eLst (aCons (eVar 5) (aCons (eVar 5) (aCons (eVar 5) (aCons (eVar 5) (aCons (eCall f_middle_rows (aCons (eVar 2) aNil)) aNil)))))) aNil))))) (sSeq (sRet (eCst (.oth (.bl false)))) sNil) sNil) (sSeq (sIf (tNot (tE (eCall (f__law_same 14) (aCons (eCall f_roots_between (aCons (eCall f_loop_poly (aCons (eVar 2) aNil)) (aCons (eTup (aCons (o1 negD (eCst (.nat 2))) (aCons (eCst (.nat 1)) aNil))) (aCons (eTup (aCons (eCst (.nat 0)) (aCons (eCst (.nat 1)) aNil))) aNil)))) (aCons (o1 sumD (eLc (iRg2 (eCst (.nat 1)) (o2 addD (eVar 2) (eCst (.nat 1)))) (gNm 19) (bd1 (t2 eqH (o2 modD (eVar 2) (eVar 19)) (eCst (.nat 0))) (eCall f_roots_between (aCons (eCall f_own_poly (aCons (eVar 19) aNil)) (aCons (eTup (aCons (o1 negD (eCst (.nat 2))) (aCons (eCst (.nat 1)) aNil))) (aCons (eTup (aCons (eCst (.nat 0)) (aCons (eCst (.nat 1)) aNil))) aNil))))) [19])) aNil))))) (sSeq (sRet (eCst (.oth (.bl false)))) sNil) sNil) (sSeq (sFor (iRg1 (eVar 5)) (gNm 7) (sSeq (sSet 8 (eCall f_closer (aCons (eVar 2) (aCons (o2 ixG (eVar 3) (eVar 7)) (aCons (eCst (.nat 60)) aNil))))) (sSeq (sSet 9 (eLst (aCons (eCall f_sign_of (aCons (eCall f_own_poly (aCons (eVar 2) aNil)) (aCons (o2 ixG (eVar 8) (eCst (.nat 0))) aNil))) (aCons (eCall f_sign_of (aCons (eCall f_own_poly (aCons (eVar 2) aNil)) (aCons (o2 ixG (eVar 8) (eCst (.nat 1))) aNil))) aNil)))) (sSeq (sIf (tOr (tNot (tOr (t2 ltD (o2 mulD (o2 ixG (eVar 9) (eCst (.nat 0))) (o2 ixG (eVar 9) (eCst (.nat 1)))) (eCst (.nat 0))) (t2 eqH (o2 ixG (eVar 9) (eCst (.nat 1))) (eCst (.nat 0))))) (tNot (tE (eCall (f__law_same 14) (aCons (eLst (aCons (eCall f_root_row (aCons (eVar 2) (aCons (eVar 8) aNil))) (aCons (eCall f_root_of_row (aCons (o2 ixG (eVar 4) (eVar 7)) aNil)) aNil))) (aCons (eLst (aCons (o2 ixG (eVar 4) (eVar 7)) (aCons (o2 ixG (eVar 3) (eVar 7)) aNil))) aNil)))))) (sSeq (sRet (eCst (.oth (.bl false)))) sNil) sNil) (sSeq (sSet 10 (eCall f__law_points (aCons (eVar 8) (aCons (eVar 2) aNil)))) (sSeq (sFor (iRg1 (eVar 2)) (gNm 11) (sSeq (sAsg (gTl 2 (gsCons (gNm 12) (gsCons (gNm 13) gsNil))) (o2 ixG (eVar 10) (eVar 11))) (sSeq (sSet 14 (eIf (t2 ltD (o2 ixG (eVar 13) (eCst (.nat 0))) (eCst (.nat 0))) (eCst (.nat 1)) (eIf (t2 gtD (o2 ixG (eVar 12) (eCst (.nat 0))) (eCst (.nat 0))) (eCst (.nat 0)) (eCst (.nat 2))))) (sSeq (sIf (t2 neH (eVar 14) (o2 ixG (o2 ixG (eVar 4) (eVar 7)) (eVar 11))) (sSeq (sRet (eCst (.oth (.bl false)))) sNil) sNil) sNil)))) (sSeq (sSet 15 (o2 ixG (eLc (iSeq (eCall f__law_leaves (aCons (eVar 2) aNil))) (gNm 19) (bd1 (tAnd (t2 eqH (eCall f__law_around (aCons (o2 ixG (eVar 19) (eCst (.nat 0))) aNil)) (o2 ixG (eVar 4) (eVar 7))) (t2 eqH (eCall f__law_mirror (aCons (o2 ixG (eVar 19) (eCst (.nat 0))) aNil)) (o2 ixG (eVar 19) (eCst (.nat 1))))) (eVar 19)) [19]) (eCst (.nat 0)))) (sSeq (sIf (tNot (tE (eCall (f__law_same 14) (aCons (o2 ixG (eCall f_middle_leaves (aCons (eVar 2) aNil)) (eVar 7)) (aCons (eVar 15) aNil))))) (sSeq (sRet (eCst (.oth (.bl false)))) sNil) sNil) (sSeq (sIf (t2 gtD (eVar 7) (eCst (.nat 0))) (sSeq (sSet 16 (eCall f_rate_compared (aCons (o2 ixG (eVar 4) (eVar 7)) (aCons (o2 ixG (eVar 4) (o2 subD (eVar 7) (eCst (.nat 1)))) aNil)))) (sSeq (sIf (tOr (t2 ltD (eVar 16) (eCst (.nat 0))) (tNot (tE (eCall (f__law_same 14) (aCons (eLst (aCons (eCall f_in_line (aCons (o2 ixG (eVar 4) (eVar 7)) (aCons (o2 ixG (eVar 4) (o2 subD (eVar 7) (eCst (.nat 1)))) aNil))) (aCons (eCall f_in_line (aCons (o2 ixG (eVar 4) (o2 subD (eVar 7) (eCst (.nat 1)))) (aCons (o2 ixG (eVar 4) (eVar 7)) aNil))) aNil))) (aCons (eLst (aCons (eCst (.nat 1)) (aCons (o1 negD (eCst (.nat 1))) aNil))) aNil)))))) (sSeq (sRet (eCst (.oth (.bl false)))) sNil) sNil) (sSeq (sIf (tAnd (tE (eCall f__law_less (aCons (o2 ixG (o2 ixG (eVar 3) (o2 subD (eVar 7) (eCst (.nat 1)))) (eCst (.nat 0))) (aCons (o2 ixG (o2 ixG (eVar 3) (eVar 7)) (eCst (.nat 1))) aNil)))) (t2 neH (o2 ixG (o2 ixG (eVar 3) (o2 subD (eVar 7) (eCst (.nat 1)))) (eCst (.nat 0))) (o2 ixG (o2 ixG (eVar 3) (eVar 7)) (eCst (.nat 1))))) (sSeq (sRet (eCst (.oth (.bl false)))) sNil) sNil) sNil))) sNil) sNil))))))))) (sSeq (sSet 17 (eLc (iSeq (eVar 4)) (gNm 19) (bd0 (eCall f_rate_grows (aCons (eVar 19) aNil))) [19])) (sSeq (sSet 18 (eT (t2 (inA false) (eVar 2) (eTup (aCons (eCst (.nat 2)) (aCons (eCst (.nat 4)) aNil)))))) (sSeq (sRet (eCall (f__law_same 14) (aCons (eVar 17) (aCons (eLc (iRg1 (eVar 5)) (gNm 7) (bd0 (eNot (eAnd (eVar 18) (eT (t2 eqH (eVar 7) (eCst (.nat 0))))))) [7]) aNil)))) sNil))))))))))
def e_law : Prop := c_law (unk :: .ref 0 :: unks 18) ⟨1, [(0, .tin)]⟩ KT = true
theorem ok_law (Z : Fx K mg) (C__law_same : Cl P w K mg base 15 "_law_same" 2 (f__law_same 14)) (C_rate_grows : Cl P w K mg base 18 "rate_grows" 1 f_rate_grows) (C__law_less : Cl P w K mg base 1 "_law_less" 2 f__law_less) (C_in_line : Cl P w K mg base 17 "in_line" 2 f_in_line) (C_rate_compared : Cl P w K mg base 18 "rate_compared" 2 f_rate_compared) (C_middle_leaves : Cl P w K mg base 9 "middle_leaves" 1 f_middle_leaves) (C__law_leaves : Cl P w K mg base 7 "_law_leaves" 1 f__law_leaves) (C__law_around : Cl P w K mg base 5 "_law_around" 1 f__law_around) (C__law_mirror : Cl P w K mg base 3 "_law_mirror" 1 f__law_mirror) (C__law_points : Cl P w K mg base 3 "_law_points" 2 f__law_points) (C_root_of_row : Cl P w K mg base 19 "root_of_row" 1 f_root_of_row) (C_root_row : Cl P w K mg base 20 "root_row" 2 f_root_row) (C_own_poly : Cl P w K mg base 19 "own_poly" 1 f_own_poly) (C_sign_of : Cl P w K mg base 17 "sign_of" 2 f_sign_of) (C_closer : Cl P w K mg base 20 "closer" 3 f_closer) (C_roots_between : Cl P w K mg base 18 "roots_between" 3 f_roots_between) (C_loop_poly : Cl P w K mg base 4 "loop_poly" 1 f_loop_poly) (C_middle_rows : Cl P w K mg base 8 "middle_rows" 1 f_middle_rows) (C_how_many_middle : Cl P w K mg base 4 "how_many_middle" 1 f_how_many_middle) (C_how_many_roots : Cl P w K mg base 19 "how_many_roots" 1 f_how_many_roots) (C_root_rows : Cl P w K mg base 20 "root_rows" 1 f_root_rows) (C_root_stretches : Cl P w K mg base 19 "root_stretches" 1 f_root_stretches) (C__law_take : Cl P w K mg base 2 "_law_take" 2 f__law_take) (C__law_box : ClS P w K mg base 1 "_law_box" (spBox K)) (C__law_cells : ClS P w K mg base 1 "_law_cells" (spCells K)) {f : Addr} {fd : FuncData} (F : FunD K "law" "law" (defArgs (top 135)) (defBody (top 135)) (defScope (top 135)) [] [] f fd) (hk : e_law) : FnOk P w K mg base CX0 21 f fd ["script"] (spLaw2 K) := by
  refine fn_law (kk := 20) F S_law rfl (fun cdv A outer s H E hr => ?_) (fun cdv A outer s H E hr => ?_) hk
  · exact ps_law0 C__law_box C__law_cells hr S_law.nd (by decide) rfl rfl rfl (.inl rfl) (by decide) (by decide) rfl rfl (by decide) (by decide) rfl rfl rfl rfl rfl rfl rfl rfl
  · have hu := hu_of hr
    exact (SC (sW 2 S_law.nd (bAdd cN (kL C__law_take hr (aC (vL 1) (aC cN a0)) (by decide)))) (SC (sA (tU (aC (kL C_root_stretches hr (aC (vC 2) a0) (by decide)) (aC (kL C_root_rows hr (aC (vC 2) a0) (by decide)) a0))) (gT (gS (gL 3 S_law.nd) (gS (gC 4 S_law.nd) g0)))) (SC (sV 5 S_law.nd (b1 call_len_seq len_ok boot_len Z.b_len (lc1 [("leaf", 15)] S_law.nd (iQ (kL C__law_leaves hr (aC (vC 2) a0) (by decide))) (fun _ _ _ _ _ => (gL 15 S_law.nd)) (fun _ _ _ _ _ => (qEq hu (kL C__law_mirror hr (aC (ix hu (vL 15) cN) a0) (by decide)) (ix hu (vL 15) cN))) (fun _ _ _ _ _ => (vL 15))))) (SC (sV 6 S_law.nd (lS (aC (b1 call_len_seq len_ok boot_len Z.b_len (vL 3)) (aC (kL C_how_many_roots hr (aC (vC 2) a0) (by decide)) (aC (kL C_how_many_middle hr (aC (vC 2) a0) (by decide)) (aC (kL C_roots_between hr (aC (kL C_own_poly hr (aC (vC 2) a0) (by decide)) (aC (tU (aC (uNeg cN) (aC cN a0))) (aC (tU (aC cN (aC cN a0))) a0))) (by decide)) (aC (vC 4) a0))))))) (SC (sI (qNot (qE (kL C__law_same hr (aC (vL 6) (aC (lS (aC (vL 5) (aC (vL 5) (aC (vL 5) (aC (vL 5) (aC (kL C_middle_rows hr (aC (vC 2) a0) (by decide)) a0)))))) a0)) (by decide)))) (SC (sR ok_bl) S0) S0) (SC (sI (qNot (qE (kL C__law_same hr (aC (kL C_roots_between hr (aC (kL C_loop_poly hr (aC (vC 2) a0) (by decide)) (aC (tU (aC (uNeg cN) (aC cN a0))) (aC (tU (aC cN (aC cN a0))) a0))) (by decide)) (aC (b1 (cr_sum rfl) sum_ok boot_sum Z.b_sum (lc1 [("own", 19)] S_law.nd (iR2 Z.b_range cN (bAdd (vC 2) cN)) (fun _ _ _ _ _ => (gL 19 S_law.nd)) (fun _ _ _ _ _ => (qEq hu (bMod (vC 2) (vL 19)) cN)) (fun _ _ _ _ _ => (kL C_roots_between hr (aC (kL C_own_poly hr (aC (vL 19) a0) (by decide)) (aC (tU (aC (uNeg cN) (aC cN a0))) (aC (tU (aC cN (aC cN a0))) a0))) (by decide))))) a0)) (by decide)))) (SC (sR ok_bl) S0) S0) (SC (sF PassesOwn.never (iR1 Z.b_range (vL 5)) (gC 7 S_law.nd) (SC (sV 8 S_law.nd (kL C_closer hr (aC (vC 2) (aC (ix hu (vL 3) (vC 7)) (aC cN a0))) (by decide))) (SC (sV 9 S_law.nd (lS (aC (kL C_sign_of hr (aC (kL C_own_poly hr (aC (vC 2) a0) (by decide)) (aC (ix hu (vL 8) cN) a0)) (by decide)) (aC (kL C_sign_of hr (aC (kL C_own_poly hr (aC (vC 2) a0) (by decide)) (aC (ix hu (vL 8) cN) a0)) (by decide)) a0)))) (SC (sI (wT (wO (qNot (wT (wO (qLt (bMul (ix hu (vL 9) cN) (ix hu (vL 9) cN)) cN) (wO1 (qEq hu (ix hu (vL 9) cN) cN))))) (wO1 (qNot (qE (kL C__law_same hr (aC (lS (aC (kL C_root_row hr (aC (vC 2) (aC (vL 8) a0)) (by decide)) (aC (kL C_root_of_row hr (aC (ix hu (vC 4) (vC 7)) a0) (by decide)) a0))) (aC (lS (aC (ix hu (vC 4) (vC 7)) (aC (ix hu (vL 3) (vC 7)) a0))) a0)) (by decide))))))) (SC (sR ok_bl) S0) S0) (SC (sV 10 S_law.nd (kL C__law_points hr (aC (vL 8) (aC (vC 2) a0)) (by decide))) (SC (sF PassesOwn.never (iR1 Z.b_range (vC 2)) (gL 11 S_law.nd) (SC (sA (ix hu (vL 10) (vL 11)) (gT (gS (gL 12 S_law.nd) (gS (gL 13 S_law.nd) g0)))) (SC (sV 14 S_law.nd (ok_if (qLt (ix hu (vL 13) cN) cN) cN (ok_if (qGt (ix hu (vL 12) cN) cN) cN cN))) (SC (sI (qNe hu (vL 14) (ix hu (ix hu (vC 4) (vC 7)) (vL 11))) (SC (sR ok_bl) S0) S0) S0)))) (SC (sV 15 S_law.nd (ix hu (lc1 [("own", 19)] S_law.nd (iQ (kL C__law_leaves hr (aC (vC 2) a0) (by decide))) (fun _ _ _ _ _ => (gL 19 S_law.nd)) (fun _ _ _ _ _ => (wT (wA (qEq hu (kL C__law_around hr (aC (ix hu (vL 19) cN) a0) (by decide)) (ix hu (vC 4) (vC 7))) (wA1 (qEq hu (kL C__law_mirror hr (aC (ix hu (vL 19) cN) a0) (by decide)) (ix hu (vL 19) cN)))))) (fun _ _ _ _ _ => (vL 19))) cN)) (SC (sI (qNot (qE (kL C__law_same hr (aC (ix hu (kL C_middle_leaves hr (aC (vC 2) a0) (by decide)) (vC 7)) (aC (vL 15) a0)) (by decide)))) (SC (sR ok_bl) S0) S0) (SC (sI (qGt (vC 7) cN) (SC (sV 16 S_law.nd (kL C_rate_compared hr (aC (ix hu (vC 4) (vC 7)) (aC (ix hu (vC 4) (bSub (vC 7) cN)) a0)) (by decide))) (SC (sI (wT (wO (qLt (vL 16) cN) (wO1 (qNot (qE (kL C__law_same hr (aC (lS (aC (kL C_in_line hr (aC (ix hu (vC 4) (vC 7)) (aC (ix hu (vC 4) (bSub (vC 7) cN)) a0)) (by decide)) (aC (kL C_in_line hr (aC (ix hu (vC 4) (bSub (vC 7) cN)) (aC (ix hu (vC 4) (vC 7)) a0)) (by decide)) a0))) (aC (lS (aC cN (aC (uNeg cN) a0))) a0)) (by decide))))))) (SC (sR ok_bl) S0) S0) (SC (sI (wT (wA (qE (kL C__law_less hr (aC (ix hu (ix hu (vL 3) (bSub (vC 7) cN)) cN) (aC (ix hu (ix hu (vL 3) (vC 7)) cN) a0)) (by decide))) (wA1 (qNe hu (ix hu (ix hu (vL 3) (bSub (vC 7) cN)) cN) (ix hu (ix hu (vL 3) (vC 7)) cN))))) (SC (sR ok_bl) S0) S0) S0))) S0) S0))))))))) (SC (sc0 17 [("own", 19)] S_law.nd (iQ (vC 4)) (fun _ _ _ _ _ => (gL 19 S_law.nd)) (fun _ _ _ _ _ => (kL C_rate_grows hr (aC (vL 19) a0) (by decide)))) (SC (sW 18 S_law.nd (eIn hu (vC 2) (tU (aC cN (aC cN a0))))) (SC (sR (kL C__law_same hr (aC (vL 17) (aC (lc0 [("k", 7)] S_law.nd (iR1 Z.b_range (vL 5)) (fun _ _ _ _ _ => (gL 7 S_law.nd)) (fun _ _ _ _ _ => (ok_eNot (ok_eAnd (vC 18) (pe_one (eEq hu (vL 7) cN)))))) a0)) (by decide))) S0))))))))))
end
end Pv
set_option Elab.async false
set_option linter.all false
set_option maxRecDepth 100000
set_option maxHeartbeats 0
namespace Pv
open PySem PySem.Spec PyProof.Rows L2
abbrev rw : PySem.W.OpenLaw := PySem.Challenge.rw_twiceround_k64_whole_roots_in_the_order
def mkD (x : Str) (i : Nat) : He.DefD := ⟨(x, none), x, x, defArgs (top i), defBody (top i), defScope (top i), [], []⟩
def fns : List (Str × Nat) := [(("is_number" : Str), 6), (("is_within" : Str), 7), (("is_long" : Str), 8), (("tupled" : Str), 9), (("are_numbers" : Str), 10), (("two_to" : Str), 11), (("number_first" : Str), 12), (("is_fraction" : Str), 14), (("lowest" : Str), 15), (("is_less" : Str), 16), (("halfway" : Str), 17), (("by_worth" : Str), 18), (("divisors_of" : Str), 19), (("primes_of" : Str), 20), (("sign_of_parts" : Str), 21), (("are_sides" : Str), 27), (("is_around" : Str), 28), (("sure_around" : Str), 29), (("all_round_rows" : Str), 30), (("side_of" : Str), 32), (("jump_by" : Str), 33), (("jumps_by" : Str), 34), (("address_by" : Str), 35), (("rest_of" : Str), 36), (("bottom_by" : Str), 37), (("bottoms_by" : Str), 38), (("place_by" : Str), 41), (("mirror" : Str), 42), (("divides_well" : Str), 45), (("is_evil_in" : Str), 46), (("evils_in" : Str), 47), (("is_middle_row_in" : Str), 49), (("inner_row" : Str), 51), (("digits_by" : Str), 50), (("lower_by" : Str), 52), (("count_middle" : Str), 53), (("ahead_in_line" : Str), 54), (("middle_rows" : Str), 55), (("middle_leaves" : Str), 56), (("how_many_middle" : Str), 57), (("in_line" : Str), 58), (("trimmed" : Str), 61), (("summed" : Str), 62), (("multiplied" : Str), 63), (("derived" : Str), 64), (("divided" : Str), 65), (("small" : Str), 66), (("rest_against" : Str), 67), (("chain_of" : Str), 68), (("sign_by" : Str), 69), (("changes_at" : Str), 70), (("roots_by" : Str), 71), (("loop_by" : Str), 72), (("own_by" : Str), 73), (("is_poly" : Str), 74), (("sure_poly" : Str), 75), (("sure_turning_poly" : Str), 76), (("sure_fraction" : Str), 77), (("loop_poly" : Str), 78), (("own_poly" : Str), 79), (("sign_of" : Str), 80), (("quotient" : Str), 83), (("single_roots" : Str), 82), (("roots_between" : Str), 81), (("parted_by" : Str), 88), (("narrowed" : Str), 89), (("side_by_root" : Str), 90), (("row_by_root" : Str), 91), (("sure_many" : Str), 92), (("is_stretch" : Str), 93), (("sure_stretch" : Str), 94), (("root_stretches" : Str), 95), (("how_many_roots" : Str), 96), (("root_row" : Str), 97), (("root_rows" : Str), 98), (("closer" : Str), 99), (("root_of_row" : Str), 100), (("shared" : Str), 104), (("has_top" : Str), 105), (("top_stretch" : Str), 106), (("same_top" : Str), 107), (("compared_top" : Str), 108), (("turns_by" : Str), 111), (("poly_by" : Str), 112), (("sure_middle_row" : Str), 113), (("rate_grows" : Str), 114), (("rate_compared" : Str), 115), (("_law_box" : Str), 117), (("_law_take" : Str), 118), (("_law_cells" : Str), 119), (("_law_same" : Str), 120), (("_law_gcd" : Str), 121), (("_law_low" : Str), 122), (("_law_two" : Str), 123), (("_law_less" : Str), 124), (("_law_rise" : Str), 125), (("_law_orbit" : Str), 126), (("_law_beats" : Str), 127), (("_law_side" : Str), 128), (("_law_around" : Str), 129), (("_law_mirror" : Str), 130), (("_law_home" : Str), 131), (("_law_leaves" : Str), 132), (("_law_twos" : Str), 133), (("_law_points" : Str), 134), (("law" : Str), 135)]
def fn : List He.DefD := fns.map fun p => mkD p.1 p.2
def fa : List He.Fa := ([.glo "is_number", .glo "is_within", .glo "is_long", .glo "tupled", .glo "are_numbers", .glo "two_to", .glo "number_first", .glo "is_fraction", .glo "lowest", .glo "is_less", .glo "halfway", .glo "by_worth", .glo "divisors_of", .glo "primes_of", .glo "sign_of_parts", .glo "are_sides", .glo "is_around", .glo "sure_around", .glo "all_round_rows", .glo "side_of", .glo "jump_by", .glo "jumps_by", .glo "address_by", .glo "rest_of", .glo "bottom_by", .glo "bottoms_by", .glo "place_by", .glo "mirror", .glo "divides_well", .glo "is_evil_in"] : List He.Fa) ++ ([.glo "evils_in", .glo "is_middle_row_in", .glo "inner_row", .glo "digits_by", .glo "lower_by", .glo "count_middle", .glo "ahead_in_line", .glo "middle_rows", .glo "middle_leaves", .glo "how_many_middle", .glo "in_line", .glo "trimmed", .glo "summed", .glo "multiplied", .glo "derived", .glo "divided", .glo "small", .glo "rest_against", .glo "chain_of", .glo "sign_by", .glo "changes_at", .glo "roots_by", .glo "loop_by", .glo "own_by", .glo "is_poly", .glo "sure_poly", .glo "sure_turning_poly", .glo "sure_fraction", .glo "loop_poly", .glo "own_poly"] : List He.Fa) ++ ([.glo "sign_of", .glo "quotient", .glo "single_roots", .glo "roots_between", .glo "parted_by", .glo "narrowed", .glo "side_by_root", .glo "row_by_root", .glo "sure_many", .glo "is_stretch", .glo "sure_stretch", .glo "root_stretches", .glo "how_many_roots", .glo "root_row", .glo "root_rows", .glo "closer", .glo "root_of_row", .glo "shared", .glo "has_top", .glo "top_stretch", .glo "same_top", .glo "compared_top", .glo "turns_by", .glo "poly_by", .glo "sure_middle_row", .glo "rate_grows", .glo "rate_compared", .glo "_law_box", .glo "_law_take", .glo "_law_cells"] : List He.Fa) ++ ([.glo "_law_same", .glo "_law_gcd", .glo "_law_low", .glo "_law_two", .glo "_law_less", .glo "_law_rise", .glo "_law_orbit", .glo "_law_beats", .glo "_law_side", .glo "_law_around", .glo "_law_mirror", .glo "_law_home", .glo "_law_leaves", .glo "_law_twos", .glo "_law_points", .glo "law", .glo "HIGH", .glo "LEFT", .glo "LOW", .glo "RIGHT", .free "abs", .free "all", .free "any", .free "bool", .free "dict", .free "enumerate", .free "int", .free "isinstance", .free "len", .free "list"] : List He.Fa) ++ ([.free "max", .free "range", .free "sorted", .free "str", .free "sum", .free "tuple", .free "zip", .int "CUT" 2, .int "FAR" 1, .int "LARGEST_polys" 8, .int "LARGEST_roots" 6, .int "LISTED" 11, .int "LONGEST_places" 60, .int "LONGEST_rates" 20, .int "LONGEST_rows" 60, .int "NEAR" 0] : List He.Fa)
def ex (K : PySem.W.Frag) : Bool := He.tupB K "HIGH" [.int 2, .int 1] && (He.tupB K "LEFT" [.int (-2), .int 1] && (He.tupB K "LOW" [.int 1, .int 1] && (He.tupB K "RIGHT" [.int 0, .int 1] && (bltB K "gcd" "math.gcd"))))
def loose : List PySem.Str := (["gcd", "CanNot", "TooMany", "Unfit", "is_number", "is_within", "is_long", "tupled", "are_numbers", "two_to", "number_first", "is_fraction", "lowest", "is_less", "halfway", "by_worth", "divisors_of", "primes_of", "sign_of_parts", "LONGEST_rows", "NEAR", "FAR", "CUT", "are_sides", "is_around", "sure_around", "all_round_rows", "side_of", "jump_by", "jumps_by"] : List PySem.Str) ++ (["address_by", "rest_of", "bottom_by", "bottoms_by", "LONGEST_places", "place_by", "mirror", "LISTED", "divides_well", "is_evil_in", "evils_in", "is_middle_row_in", "digits_by", "inner_row", "lower_by", "count_middle", "ahead_in_line", "middle_rows", "middle_leaves", "how_many_middle", "in_line", "LARGEST_polys", "trimmed", "summed", "multiplied", "derived", "divided", "small", "rest_against", "chain_of"] : List PySem.Str) ++ (["sign_by", "changes_at", "roots_by", "loop_by", "own_by", "is_poly", "sure_poly", "sure_turning_poly", "sure_fraction", "loop_poly", "own_poly", "sign_of", "roots_between", "single_roots", "quotient", "LARGEST_roots", "LEFT", "RIGHT", "parted_by", "narrowed", "side_by_root", "row_by_root", "sure_many", "is_stretch", "sure_stretch", "root_stretches", "how_many_roots", "root_row", "root_rows", "closer"] : List PySem.Str) ++ (["root_of_row", "LOW", "HIGH", "shared", "has_top", "top_stretch", "same_top", "compared_top", "LONGEST_rates", "turns_by", "poly_by", "sure_middle_row", "rate_grows", "rate_compared", "_law_box", "_law_take", "_law_cells", "_law_same", "_law_gcd", "_law_low", "_law_two", "_law_less", "_law_rise", "_law_orbit", "_law_beats", "_law_side", "_law_around", "_law_mirror", "_law_home", "_law_leaves"] : List PySem.Str) ++ (["_law_twos", "_law_points"] : List PySem.Str)
abbrev R : PySem.W.OpenRow := PySem.W.OpenLaw.row rw
abbrev hk : PySem.W.Hook := hookX 2 fa fn ex
def ob (s : PySem.W.SharedT) : AlX := obsXG 2 fa fn ex (HandSHeadRun.getT s)
theorem ob_eq (s : PySem.W.SharedT) : ob s = hk.obs s.abs := obsXG_eq (HandSHeadRun.getT_eq s)
theorem run3 {α β γ δ : Type} {o : Option α} {f : α → β} {g : α → γ} {h : α → δ} {a : β} {b : γ} {c : δ} (h1 : o.map f = some a) (h2 : o.map g = some b) (h3 : o.map h = some c) : o.map (fun x => (f x, g x, h x)) = some (a, b, c) := by
  cases o with
  | none => cases h1
  | some x => cases h1; cases h2; cases h3; rfl
section
open HandSHeadRun PySem.W
def whole (w : World) : Option (Shared × SharedT) := wholeF (fun p => stepQ (denQ tabQ) p w) fenceQ 6000 R.prog
theorem runL (w : World) : ((whole w).map fun x => looksF R.prog x.1.heap x.2.abs) = some true := by
  unfold whole
  kernel_rfl
theorem runS (w : World) : ((whole w).map fun x => seenQ (view R.prog [135]) loose (importedModules R.prog.main.body) (fun s => xlAt (view R.prog [135]) [] s && recOk R.toRowW.records s) x.2.abs) = some (openGood (view R.prog [135]) loose) := by
  unfold whole
  kernel_rfl
theorem runO (w : World) : ((whole w).map fun x => ob x.2) = some (hk.val w) := by
  unfold whole
  kernel_rfl
theorem run (w : World) : RunEqI R (view R.prog [135]) hk ob 6000 loose w := run3 (runL w) (runS w) (runO w)
end
theorem facts_ {P : Program} {w : World} {K : PySem.W.Frag} {h : Heap} {mg : Str → Option Value} {f : Addr} (X : K.In h) (G : h.Ns mainGlobals mg) (hfa : mg ("law" : Str) = some (.ref f)) (c : SaysX fa fn ex K) (hk : e_law) :
    ∃ fd : FuncData, (∀ (s : Shared) (v : Value), BindsTo s fd ⟨[v], []⟩ [("script", v)]) ∧ ∀ base : Heap, K.In base → base.Ns mainGlobals mg → FnOk P w K mg base CX0 21 f fd ["script"] (spLaw2 K) := by
  have dx : ∀ (i : Nat) (x : Str) (j : Nat), fns[i]? = some (x, j) → fa[i]? = some (.glo x) → Dx K mg x j := fun i x j h1 h2 => by
    obtain ⟨fd, F⟩ := c.2.def_ i (d := mkD x j) (by unfold fn; rw [List.getElem?_map, h1]; rfl)
    exact ⟨_, fd, F, He.glo_ok X G (c.2.fact i h2)⟩
  have ce := c.1
  unfold ex at ce
  obtain ⟨x0, ce0⟩ := He.ba ce
  obtain ⟨x1, ce1⟩ := He.ba ce0
  obtain ⟨x2, ce2⟩ := He.ba ce1
  obtain ⟨x3, ce3⟩ := He.ba ce2
  have Z : Fx K mg := {
    b_abs := He.free_ok X G (c.2.fact 110 rfl),
    b_all := He.free_ok X G (c.2.fact 111 rfl),
    b_any := He.free_ok X G (c.2.fact 112 rfl),
    b_bool := He.free_ok X G (c.2.fact 113 rfl),
    b_dict := He.free_ok X G (c.2.fact 114 rfl),
    b_enumerate := He.free_ok X G (c.2.fact 115 rfl),
    b_int := He.free_ok X G (c.2.fact 116 rfl),
    b_isinstance := He.free_ok X G (c.2.fact 117 rfl),
    b_len := He.free_ok X G (c.2.fact 118 rfl),
    b_list := He.free_ok X G (c.2.fact 119 rfl),
    b_max := He.free_ok X G (c.2.fact 120 rfl),
    b_range := He.free_ok X G (c.2.fact 121 rfl),
    b_sorted := He.free_ok X G (c.2.fact 122 rfl),
    b_str := He.free_ok X G (c.2.fact 123 rfl),
    b_sum := He.free_ok X G (c.2.fact 124 rfl),
    b_tuple := He.free_ok X G (c.2.fact 125 rfl),
    b_zip := He.free_ok X G (c.2.fact 126 rfl),
    i_CUT := He.int_ok X G (c.2.fact 127 rfl),
    i_FAR := He.int_ok X G (c.2.fact 128 rfl),
    i_LARGEST_polys := He.int_ok X G (c.2.fact 129 rfl),
    i_LARGEST_roots := He.int_ok X G (c.2.fact 130 rfl),
    i_LISTED := He.int_ok X G (c.2.fact 131 rfl),
    i_LONGEST_places := He.int_ok X G (c.2.fact 132 rfl),
    i_LONGEST_rates := He.int_ok X G (c.2.fact 133 rfl),
    i_LONGEST_rows := He.int_ok X G (c.2.fact 134 rfl),
    i_NEAR := He.int_ok X G (c.2.fact 135 rfl),
    t_HIGH := tupG_of (He.glo_ok X G (c.2.fact 106 rfl)) x0,
    t_LEFT := tupG_of (He.glo_ok X G (c.2.fact 107 rfl)) x1,
    t_LOW := tupG_of (He.glo_ok X G (c.2.fact 108 rfl)) x2,
    t_RIGHT := tupG_of (He.glo_ok X G (c.2.fact 109 rfl)) x3,
    f_gcd := bltB_ok X G ce3 }
  obtain ⟨fd, F⟩ := c.2.def_ 105 (d := mkD "law" 135) rfl
  have e := hfa.symm.trans (He.glo_ok X G (c.2.fact 105 (f := .glo "law") rfl))
  cases e
  have b := FunD.bindsA (ps := ["script"]) F fun _ _ _ _ _ _ us hl => match us, hl with | [_], _ => rfl
  refine ⟨fd, fun s v => b s [v] rfl, fun base _ _ => ?_⟩
  have C_is_number : Cl P w K mg base 1 "is_number" 1 f_is_number := ok_is_number Z (dx 0 _ _ rfl rfl) 
  have C_is_within : Cl P w K mg base 2 "is_within" 3 f_is_within := ok_is_within Z (dx 1 _ _ rfl rfl) C_is_number
  have C_is_long : Cl P w K mg base 1 "is_long" 2 f_is_long := ok_is_long Z (dx 2 _ _ rfl rfl) 
  have C_tupled : Cl P w K mg base 15 "tupled" 1 (f_tupled 14) := ok_tupled Z (dx 3 _ _ rfl rfl)  14
  have C_are_numbers : Cl P w K mg base 2 "are_numbers" 1 f_are_numbers := ok_are_numbers Z (dx 4 _ _ rfl rfl) C_is_number
  have C_two_to : Cl P w K mg base 1 "two_to" 1 f_two_to := ok_two_to Z (dx 5 _ _ rfl rfl) 
  have C_number_first : Cl P w K mg base 1 "number_first" 1 f_number_first := ok_number_first Z (dx 6 _ _ rfl rfl) 
  have C_is_fraction : Cl P w K mg base 3 "is_fraction" 1 f_is_fraction := ok_is_fraction Z (dx 7 _ _ rfl rfl) C_is_long C_are_numbers
  have C_lowest : Cl P w K mg base 1 "lowest" 2 f_lowest := ok_lowest Z (dx 8 _ _ rfl rfl) 
  have C_is_less : Cl P w K mg base 1 "is_less" 2 f_is_less := ok_is_less Z (dx 9 _ _ rfl rfl) 
  have C_halfway : Cl P w K mg base 2 "halfway" 2 f_halfway := ok_halfway Z (dx 10 _ _ rfl rfl) C_lowest
  have C_by_worth : Cl P w K mg base 1 "by_worth" 1 f_by_worth := ok_by_worth Z (dx 11 _ _ rfl rfl) 
  have C_divisors_of : Cl P w K mg base 1 "divisors_of" 1 f_divisors_of := ok_divisors_of Z (dx 12 _ _ rfl rfl) 
  have C_primes_of : Cl P w K mg base 1 "primes_of" 1 f_primes_of := ok_primes_of Z (dx 13 _ _ rfl rfl) 
  have C_sign_of_parts : Cl P w K mg base 2 "sign_of_parts" 1 f_sign_of_parts := ok_sign_of_parts Z (dx 14 _ _ rfl rfl) C_primes_of
  have C_are_sides : Cl P w K mg base 3 "are_sides" 1 f_are_sides := ok_are_sides Z (dx 15 _ _ rfl rfl) C_is_within
  have C_is_around : Cl P w K mg base 4 "is_around" 1 f_is_around := ok_is_around Z (dx 16 _ _ rfl rfl) C_are_sides
  have C_sure_around : Cl P w K mg base 16 "sure_around" 1 f_sure_around := ok_sure_around Z (dx 17 _ _ rfl rfl) C_is_around C_tupled
  have C_all_round_rows : Cl P w K mg base 1 "all_round_rows" 1 f_all_round_rows := ok_all_round_rows Z (dx 18 _ _ rfl rfl) 
  have C_side_of : Cl P w K mg base 1 "side_of" 2 f_side_of := ok_side_of Z (dx 19 _ _ rfl rfl) 
  have C_jump_by : Cl P w K mg base 2 "jump_by" 2 f_jump_by := ok_jump_by Z (dx 20 _ _ rfl rfl) C_side_of
  have C_jumps_by : Cl P w K mg base 3 "jumps_by" 2 f_jumps_by := ok_jumps_by Z (dx 21 _ _ rfl rfl) C_jump_by
  have C_address_by : Cl P w K mg base 4 "address_by" 1 f_address_by := ok_address_by Z (dx 22 _ _ rfl rfl) C_jumps_by
  have C_rest_of : Cl P w K mg base 1 "rest_of" 2 f_rest_of := ok_rest_of Z (dx 23 _ _ rfl rfl) 
  have C_bottom_by : Cl P w K mg base 4 "bottom_by" 3 f_bottom_by := ok_bottom_by Z (dx 24 _ _ rfl rfl) C_jumps_by C_rest_of
  have C_bottoms_by : Cl P w K mg base 5 "bottoms_by" 1 f_bottoms_by := ok_bottoms_by Z (dx 25 _ _ rfl rfl) C_bottom_by C_address_by
  have C_place_by : Cl P w K mg base 2 "place_by" 2 f_place_by := ok_place_by Z (dx 26 _ _ rfl rfl) C_lowest C_two_to C_number_first
  have C_mirror : Cl P w K mg base 2 "mirror" 1 f_mirror := ok_mirror Z (dx 27 _ _ rfl rfl) C_lowest
  have C_divides_well : Cl P w K mg base 3 "divides_well" 2 f_divides_well := ok_divides_well Z (dx 28 _ _ rfl rfl) C_jump_by
  have C_is_evil_in : Cl P w K mg base 5 "is_evil_in" 2 f_is_evil_in := ok_is_evil_in Z (dx 29 _ _ rfl rfl) C_rest_of C_jumps_by C_jump_by C_address_by C_divides_well
  have C_evils_in : Cl P w K mg base 6 "evils_in" 1 f_evils_in := ok_evils_in Z (dx 30 _ _ rfl rfl) C_is_evil_in
  have C_is_middle_row_in : Cl P w K mg base 7 "is_middle_row_in" 1 f_is_middle_row_in := ok_is_middle_row_in Z (dx 31 _ _ rfl rfl) C_evils_in C_bottoms_by
  have C_inner_row : Cl P w K mg base 1 "inner_row" 1 f_inner_row := ok_inner_row Z (dx 32 _ _ rfl rfl) 
  have C_digits_by : Cl P w K mg base 2 "digits_by" 1 f_digits_by := ok_digits_by Z (dx 33 _ _ rfl rfl) C_inner_row
  have C_lower_by : Cl P w K mg base 3 "lower_by" 1 f_lower_by := ok_lower_by Z (dx 34 _ _ rfl rfl) C_digits_by C_place_by
  have C_count_middle : Cl P w K mg base 3 "count_middle" 1 f_count_middle := ok_count_middle Z (dx 35 _ _ rfl rfl) C_divisors_of C_sign_of_parts C_two_to
  have C_ahead_in_line : Cl P w K mg base 4 "ahead_in_line" 2 f_ahead_in_line := ok_ahead_in_line Z (dx 36 _ _ rfl rfl) C_is_less C_lower_by
  have C_middle_rows : Cl P w K mg base 8 "middle_rows" 1 f_middle_rows := ok_middle_rows Z (dx 37 _ _ rfl rfl) C_lower_by C_by_worth C_all_round_rows C_is_middle_row_in C_is_within
  have C_middle_leaves : Cl P w K mg base 9 "middle_leaves" 1 f_middle_leaves := ok_middle_leaves Z (dx 38 _ _ rfl rfl) C_mirror C_middle_rows C_lower_by
  have C_how_many_middle : Cl P w K mg base 4 "how_many_middle" 1 f_how_many_middle := ok_how_many_middle Z (dx 39 _ _ rfl rfl) C_count_middle C_is_within
  have C_in_line : Cl P w K mg base 17 "in_line" 2 f_in_line := ok_in_line Z (dx 40 _ _ rfl rfl) C_ahead_in_line C_is_middle_row_in C_sure_around
  have C_trimmed : Cl P w K mg base 1 "trimmed" 1 f_trimmed := ok_trimmed Z (dx 41 _ _ rfl rfl) 
  have C_summed : Cl P w K mg base 2 "summed" 2 f_summed := ok_summed Z (dx 42 _ _ rfl rfl) C_trimmed
  have C_multiplied : Cl P w K mg base 2 "multiplied" 2 f_multiplied := ok_multiplied Z (dx 43 _ _ rfl rfl) C_trimmed
  have C_derived : Cl P w K mg base 2 "derived" 1 f_derived := ok_derived Z (dx 44 _ _ rfl rfl) C_trimmed
  have C_divided : Cl P w K mg base 2 "divided" 2 f_divided := ok_divided Z (dx 45 _ _ rfl rfl) C_trimmed
  have C_small : Cl P w K mg base 1 "small" 1 f_small := ok_small Z (dx 46 _ _ rfl rfl) 
  have C_rest_against : Cl P w K mg base 2 "rest_against" 2 f_rest_against := ok_rest_against Z (dx 47 _ _ rfl rfl) C_small C_trimmed
  have C_chain_of : Cl P w K mg base 3 "chain_of" 1 f_chain_of := ok_chain_of Z (dx 48 _ _ rfl rfl) C_rest_against C_derived
  have C_sign_by : Cl P w K mg base 1 "sign_by" 2 f_sign_by := ok_sign_by Z (dx 49 _ _ rfl rfl) 
  have C_changes_at : Cl P w K mg base 2 "changes_at" 2 f_changes_at := ok_changes_at Z (dx 50 _ _ rfl rfl) C_sign_by
  have C_roots_by : Cl P w K mg base 3 "roots_by" 3 f_roots_by := ok_roots_by Z (dx 51 _ _ rfl rfl) C_changes_at
  have C_loop_by : Cl P w K mg base 3 "loop_by" 1 f_loop_by := ok_loop_by Z (dx 52 _ _ rfl rfl) C_multiplied C_summed
  have C_own_by : Cl P w K mg base 18 "own_by" 1 (f_own_by 14) := ok_own_by Z (dx 53 _ _ rfl rfl) C_divisors_of C_divided C_loop_by 14
  have C_is_poly : Cl P w K mg base 3 "is_poly" 1 f_is_poly := ok_is_poly Z (dx 54 _ _ rfl rfl) C_are_numbers
  have C_sure_poly : Cl P w K mg base 16 "sure_poly" 1 f_sure_poly := ok_sure_poly Z (dx 55 _ _ rfl rfl) C_is_poly C_tupled
  have C_sure_turning_poly : Cl P w K mg base 17 "sure_turning_poly" 1 f_sure_turning_poly := ok_sure_turning_poly Z (dx 56 _ _ rfl rfl) C_sure_poly
  have C_sure_fraction : Cl P w K mg base 16 "sure_fraction" 1 f_sure_fraction := ok_sure_fraction Z (dx 57 _ _ rfl rfl) C_is_fraction C_tupled
  have C_loop_poly : Cl P w K mg base 4 "loop_poly" 1 f_loop_poly := ok_loop_poly Z (dx 58 _ _ rfl rfl) C_loop_by C_is_within
  have C_own_poly : Cl P w K mg base 19 "own_poly" 1 f_own_poly := ok_own_poly Z (dx 59 _ _ rfl rfl) C_own_by C_is_within
  have C_sign_of : Cl P w K mg base 17 "sign_of" 2 f_sign_of := ok_sign_of Z (dx 60 _ _ rfl rfl) C_sure_fraction C_sign_by C_sure_poly
  have C_quotient : Cl P w K mg base 2 "quotient" 2 f_quotient := ok_quotient Z (dx 61 _ _ rfl rfl) C_trimmed C_small
  have C_single_roots : Cl P w K mg base 4 "single_roots" 1 f_single_roots := ok_single_roots Z (dx 62 _ _ rfl rfl) C_quotient C_chain_of
  have C_roots_between : Cl P w K mg base 18 "roots_between" 3 f_roots_between := ok_roots_between Z (dx 63 _ _ rfl rfl) C_single_roots C_chain_of C_roots_by C_is_less C_sure_fraction C_sure_turning_poly
  have C_parted_by : Cl P w K mg base 18 "parted_by" 3 (f_parted_by 14) := ok_parted_by Z (dx 64 _ _ rfl rfl) C_halfway C_roots_by 14
  have C_narrowed : Cl P w K mg base 4 "narrowed" 2 f_narrowed := ok_narrowed Z (dx 65 _ _ rfl rfl) C_roots_by C_halfway
  have C_side_by_root : Cl P w K mg base 5 "side_by_root" 3 f_side_by_root := ok_side_by_root Z (dx 66 _ _ rfl rfl) C_sign_by C_roots_by C_narrowed C_chain_of
  have C_row_by_root : Cl P w K mg base 19 "row_by_root" 2 f_row_by_root := ok_row_by_root Z (dx 67 _ _ rfl rfl) C_loop_by C_side_by_root C_own_by C_chain_of
  have C_sure_many : Cl P w K mg base 3 "sure_many" 1 f_sure_many := ok_sure_many Z (dx 68 _ _ rfl rfl) C_is_within
  have C_is_stretch : Cl P w K mg base 4 "is_stretch" 1 f_is_stretch := ok_is_stretch Z (dx 69 _ _ rfl rfl) C_is_long C_is_fraction C_is_less
  have C_sure_stretch : Cl P w K mg base 19 "sure_stretch" 2 f_sure_stretch := ok_sure_stretch Z (dx 70 _ _ rfl rfl) C_sure_many C_own_by C_chain_of C_roots_by C_is_within C_is_stretch C_tupled
  have C_root_stretches : Cl P w K mg base 19 "root_stretches" 1 f_root_stretches := ok_root_stretches Z (dx 71 _ _ rfl rfl) C_sure_many C_own_by C_chain_of C_parted_by
  have C_how_many_roots : Cl P w K mg base 19 "how_many_roots" 1 f_how_many_roots := ok_how_many_roots Z (dx 72 _ _ rfl rfl) C_sure_many C_own_by C_chain_of C_roots_by
  have C_root_row : Cl P w K mg base 20 "root_row" 2 f_root_row := ok_root_row Z (dx 73 _ _ rfl rfl) C_sure_stretch C_row_by_root
  have C_root_rows : Cl P w K mg base 20 "root_rows" 1 f_root_rows := ok_root_rows Z (dx 74 _ _ rfl rfl) C_own_by C_chain_of C_parted_by C_row_by_root C_sure_many
  have C_closer : Cl P w K mg base 20 "closer" 3 f_closer := ok_closer Z (dx 75 _ _ rfl rfl) C_narrowed C_own_by C_chain_of C_sure_stretch C_is_within
  have C_root_of_row : Cl P w K mg base 19 "root_of_row" 1 f_root_of_row := ok_root_of_row Z (dx 76 _ _ rfl rfl) C_own_by C_chain_of C_parted_by C_middle_rows C_sure_many C_is_within C_tupled
  have C_shared : Cl P w K mg base 3 "shared" 2 f_shared := ok_shared Z (dx 77 _ _ rfl rfl) C_rest_against
  have C_has_top : Cl P w K mg base 5 "has_top" 1 f_has_top := ok_has_top Z (dx 78 _ _ rfl rfl) C_single_roots C_chain_of C_roots_by
  have C_top_stretch : Cl P w K mg base 5 "top_stretch" 2 f_top_stretch := ok_top_stretch Z (dx 79 _ _ rfl rfl) C_roots_by C_halfway C_single_roots C_chain_of
  have C_same_top : Cl P w K mg base 6 "same_top" 2 f_same_top := ok_same_top Z (dx 80 _ _ rfl rfl) C_roots_by C_halfway C_chain_of C_shared C_has_top C_single_roots
  have C_compared_top : Cl P w K mg base 7 "compared_top" 2 f_compared_top := ok_compared_top Z (dx 81 _ _ rfl rfl) C_is_less C_top_stretch C_same_top
  have C_turns_by : Cl P w K mg base 1 "turns_by" 1 f_turns_by := ok_turns_by Z (dx 82 _ _ rfl rfl) 
  have C_poly_by : Cl P w K mg base 2 "poly_by" 1 f_poly_by := ok_poly_by Z (dx 83 _ _ rfl rfl) C_turns_by C_trimmed
  have C_sure_middle_row : Cl P w K mg base 17 "sure_middle_row" 1 f_sure_middle_row := ok_sure_middle_row Z (dx 84 _ _ rfl rfl) C_is_middle_row_in C_sure_around
  have C_rate_grows : Cl P w K mg base 18 "rate_grows" 1 f_rate_grows := ok_rate_grows Z (dx 85 _ _ rfl rfl) C_sure_middle_row C_poly_by C_has_top
  have C_rate_compared : Cl P w K mg base 18 "rate_compared" 2 f_rate_compared := ok_rate_compared Z (dx 86 _ _ rfl rfl) C_sure_middle_row C_poly_by C_compared_top C_is_middle_row_in C_sure_around
  have C__law_box : ClS P w K mg base 1 "_law_box" (spBox K) := ok__law_box Z (dx 87 _ _ rfl rfl)
  have C__law_take : Cl P w K mg base 2 "_law_take" 2 f__law_take := ok__law_take Z (dx 88 _ _ rfl rfl) 
  have C__law_cells : ClS P w K mg base 1 "_law_cells" (spCells K) := ok__law_cells Z (dx 89 _ _ rfl rfl)
  have C__law_same : Cl P w K mg base 15 "_law_same" 2 (f__law_same 14) := ok__law_same Z (dx 90 _ _ rfl rfl)  14
  have C__law_gcd : Cl P w K mg base 1 "_law_gcd" 2 f__law_gcd := ok__law_gcd Z (dx 91 _ _ rfl rfl) 
  have C__law_low : Cl P w K mg base 2 "_law_low" 2 f__law_low := ok__law_low Z (dx 92 _ _ rfl rfl) C__law_gcd
  have C__law_two : Cl P w K mg base 3 "_law_two" 1 f__law_two := ok__law_two Z (dx 93 _ _ rfl rfl) C__law_low
  have C__law_less : Cl P w K mg base 1 "_law_less" 2 f__law_less := ok__law_less Z (dx 94 _ _ rfl rfl) 
  have C__law_rise : Cl P w K mg base 2 "_law_rise" 1 f__law_rise := ok__law_rise Z (dx 95 _ _ rfl rfl) C__law_less
  have C__law_orbit : Cl P w K mg base 4 "_law_orbit" 1 f__law_orbit := ok__law_orbit Z (dx 96 _ _ rfl rfl) C__law_two
  have C__law_beats : Cl P w K mg base 5 "_law_beats" 1 f__law_beats := ok__law_beats Z (dx 97 _ _ rfl rfl) C__law_two C__law_orbit
  have C__law_side : Cl P w K mg base 1 "_law_side" 2 f__law_side := ok__law_side Z (dx 98 _ _ rfl rfl) 
  have C__law_around : Cl P w K mg base 5 "_law_around" 1 f__law_around := ok__law_around Z (dx 99 _ _ rfl rfl) C__law_orbit C__law_side
  have C__law_mirror : Cl P w K mg base 3 "_law_mirror" 1 f__law_mirror := ok__law_mirror Z (dx 100 _ _ rfl rfl) C__law_low
  have C__law_home : Cl P w K mg base 6 "_law_home" 1 f__law_home := ok__law_home Z (dx 101 _ _ rfl rfl) C__law_beats C__law_low
  have C__law_leaves : Cl P w K mg base 7 "_law_leaves" 1 f__law_leaves := ok__law_leaves Z (dx 102 _ _ rfl rfl) C__law_rise C__law_home C__law_around
  have C__law_twos : Cl P w K mg base 1 "_law_twos" 2 f__law_twos := ok__law_twos Z (dx 103 _ _ rfl rfl) 
  have C__law_points : Cl P w K mg base 3 "_law_points" 2 f__law_points := ok__law_points Z (dx 104 _ _ rfl rfl) C__law_low C__law_rise C__law_twos
  exact ok_law Z C__law_same C_rate_grows C__law_less C_in_line C_rate_compared C_middle_leaves C__law_leaves C__law_around C__law_mirror C__law_points C_root_of_row C_root_row C_own_poly C_sign_of C_closer C_roots_between C_loop_poly C_middle_rows C_how_many_middle C_how_many_roots C_root_rows C_root_stretches C__law_take C__law_box C__law_cells F hk
end Pv
open PySem PySem.W PySem.Calls PyProof.Rows
theorem holds_of (hk : Pv.e_law) : PySem.Challenge.rw_twiceround_k64_whole_roots_in_the_order.Holds := by
  w_on; o_law
  refine HandSHeadRun.head_imp (r := OpenLaw.row PySem.Challenge.rw_twiceround_k64_whole_roots_in_the_order) (q := view (OpenLaw.row PySem.Challenge.rw_twiceround_k64_whole_roots_in_the_order).prog [135]) (H := Pv.hk) (ob := Pv.ob) (M := 6000) (loose := Pv.loose) (d := HandSHeadRun.topDef (OpenLaw.row PySem.Challenge.rw_twiceround_k64_whole_roots_in_the_order).prog 135) (kwd := []) Pv.ob_eq
    Pv.run (by kernel_rfl) (by kernel_rfl) (by kernel_rfl) (by rfl) (by first | assumption | decide +kernel) (by decide +kernel) ⟨rfl, rfl, rfl, rfl, rfl, by decide +kernel⟩ ?hw ?hc
  case hw => w_witness2
  case hc =>
    refine L2.walk_ofE (l := PySem.Challenge.rw_twiceround_k64_whole_roots_in_the_order) (n := 63) (k := 21) (x := "script") (CX := L2.CX0) rfl (by decide) (by kernel_rfl) ⟨rfl, by decide, by decide⟩ ?F (fun _ _ _ _ z => z)
    intro w mg fa h Y G hmg0
    obtain ⟨K, KX, c⟩ := Y
    have hmg : mg ("law" : PySem.Str) = some (.ref fa) := by
      have e : (HandSHeadRun.topDef (OpenLaw.row PySem.Challenge.rw_twiceround_k64_whole_roots_in_the_order).prog 135).name = ("law" : PySem.Str) := by kernel_rfl
      rw [← e]
      exact hmg0
    obtain ⟨fd, hb, hF⟩ := Pv.facts_ (P := (PySem.Challenge.rw_twiceround_k64_whole_roots_in_the_order).prog) (w := w) KX G hmg c hk
    exact ⟨K, fd, Pv.spLaw2 K, KX, hb, fun H a ns hl _ hS => ⟨a, ns, rfl, hl, fun _ => rfl, hS⟩, hF⟩
theorem PySem.Challenge.cw_twiceround_k64_whole_roots_in_the_order_holds : PySem.Challenge.rw_twiceround_k64_whole_roots_in_the_order.Holds := by
  refine holds_of ?_
  unfold Pv.e_law
  decide +kernel
