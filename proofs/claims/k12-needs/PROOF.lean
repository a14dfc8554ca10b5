import PyProof.Rows.All
import Wide.All
import OpenK.AllK
import Wide.FinOn
import HandS.ForMost
import HandS.Wide
import HandS.IsInst
import HandS.Flow
import HandS.Conv
import HandS.Deep
import HandS.Defaults
import HandS.Head0
import HandS.Head1
import HandS.Head2
import HandS.HeadEnd
import HandS.HeadHook1
import HandS.HeadHook2
import HandS.Flt
import PySem.Challenge.RW_placesforgood_k12_needs
set_option Elab.async false
set_option linter.all false
set_option maxRecDepth 100000
/-! Mi: a small language of deep values over the layer: its words, its run (a predicate transformer). -/
namespace Mi
open PySem PySem.Spec PyProof.Rows L2

/-! ### values, objects -/
inductive D where
  | non | bl (b : Bool) | int (i : Int) | str (x : Str) | tup (xs : List D) | ref (n : Nat)
/-- objects: lists, lists that nobody changes, dicts -/
inductive MO where
  | lst (xs : List D) | frz (xs : List D) | dic (kvs : List (D × D))
abbrev Hh := List MO
abbrev Sg := List (Option D)
abbrev Kd := D → Hh → Prop
abbrev Ex := Nat → List D → Hh → Prop
abbrev Cl := Nat → List D → Hh → Kd → Ex → Prop

/-! ### tests of what is known -/
@[irreducible] def chk : Bool → Prop → Prop
  | true, P => P
  | false, _ => False
@[irreducible] def br : Bool → Prop → Prop → Prop
  | true, P, _ => P
  | false, _, R => R
theorem chk_t {P : Prop} : chk true P = P := by unfold chk; rfl
theorem chk_i {b : Bool} {P : Prop} (h : b = true) (p : P) : chk b P := by subst h; rw [chk_t]; exact p
theorem chk_e {b : Bool} {P : Prop} (h : chk b P) : b = true ∧ P := by
  cases b with
  | true => rw [chk_t] at h; exact ⟨rfl, h⟩
  | false => unfold chk at h; exact h.elim
theorem br_T {P R : Prop} : br true P R = P := by unfold br; rfl
theorem br_F {P R : Prop} : br false P R = R := by unfold br; rfl
theorem br_i {b : Bool} {P R : Prop} (h1 : b = true → P) (h2 : b = false → R) : br b P R := by
  cases b with
  | true => rw [br_T]; exact h1 rfl
  | false => rw [br_F]; exact h2 rfl
theorem br_t {b : Bool} {P R : Prop} (h : b = true) (p : P) : br b P R := by subst h; rw [br_T]; exact p
theorem br_f {b : Bool} {P R : Prop} (h : b = false) (p : R) : br b P R := by subst h; rw [br_F]; exact p
theorem br_e {b : Bool} {P R : Prop} (h : br b P R) : (b = true ∧ P) ∨ (b = false ∧ R) := by
  cases b with
  | true => rw [br_T] at h; exact .inl ⟨rfl, h⟩
  | false => rw [br_F] at h; exact .inr ⟨rfl, h⟩

/-! ### words -/
inductive BOp where | add | sub | mul | fdiv | mod | pow | shl | band
inductive COp where | eq | ne | lt | le | gt | ge | is | isnot | isin | notin
inductive Blt where | len | int | abs | max | min | tuple | list | sum
inductive Tyn where | int | bool | str | tuple | list
  deriving DecidableEq
inductive Mth where | append | pop | popAt | extend

mutual
inductive ME where
  | non | bl (b : Bool) | int (i : Int) | str (x : Str)
  | var (i : Nat) | gl (i : Nat)
  | bin (op : BOp) (a b : ME) | neg (a : ME) | not (a : ME)
  | cmp (op : COp) (a b : ME) | chain (op op' : COp) (a b c : ME)
  | and (a b : ME) | or (a b : ME) | ife (t a b : ME)
  | call (f : Nat) (es : MEs)
  | blt (f : Blt) (es : MEs)
  | isi (a : ME) (ts : List Tyn)
  | meth (m : Mth) (o : ME) (es : MEs)
  | ix (a i : ME) | sl (a : ME) (lo hi : MEo)
  | tup (es : MEs) | lst (es : MEs)
  | lc (elt : ME) (t : MT) (it : MI) (c : MEo)
inductive MEs where
  | nil | cons (e : ME) (es : MEs)
inductive MEo where
  | none | some (e : ME)
inductive MT where
  | name (i : Nat) | tup (is : List Nat) | sub (a i : ME)
inductive MI where
  | seq (e : ME) | rng1 (a : ME) | rng2 (a b : ME)
end
mutual
inductive MS where
  | expr (e : ME) | asg (t : MT) (e : ME) | aug (i : Nat) (op : BOp) (e : ME)
  | ret (e : ME) | retN | pass | brk | cnt
  | ife (t : ME) (a b : MB) | whl (t : ME) (b : MB) | forr (t : MT) (it : MI) (b : MB)
inductive MB where
  | nil | cons (s : MS) (b : MB)
end
structure MF where
  np : Nat
  ns : Nat
  body : MB

/-! ### operations -/
/-- the object at n -/
@[irreducible] def rdO (h : Hh) (n : Nat) (K : MO → Prop) : Prop := match h[n]? with
  | some o => K o
  | none => False
theorem rdO_i {h : Hh} {n : Nat} {o : MO} {K : MO → Prop} (e : h[n]? = some o) (k : K o) : rdO h n K := by unfold rdO; rw [e]; exact k
theorem rdO_e {h : Hh} {n : Nat} {K : MO → Prop} (w : rdO h n K) : ∃ o, h[n]? = some o ∧ K o := by
  unfold rdO at w
  split at w
  · rename_i o e
    exact ⟨o, e, w⟩
  · exact w.elim
def rdL (h : Hh) (n : Nat) (K : List D → Prop) : Prop := rdO h n fun o => match o with
  | .lst xs => K xs
  | _ => False
theorem rdL_e {h : Hh} {n : Nat} {K : List D → Prop} (w : rdL h n K) : ∃ xs, h[n]? = some (.lst xs) ∧ K xs := by
  obtain ⟨o, e, k⟩ := rdO_e w
  cases o with
  | lst xs => exact ⟨xs, e, k⟩
  | _ => exact k.elim
/-- what a sequence holds -/
def sq (h : Hh) (d : D) (K : List D → Prop) : Prop := match d with
  | .tup xs => K xs
  | .ref n => rdO h n fun o => match o with
    | .lst xs => K xs
    | .frz xs => K xs
    | _ => False
  | _ => False
/-- a new object; an object changed -/
@[irreducible] def new (o : MO) (h : Hh) (Q : Kd) : Prop := Q (.ref h.length) (h ++ [o])
@[irreducible] def put (h : Hh) (n : Nat) (o : MO) (P : Hh → Prop) : Prop := P (h.set n o)
theorem new_e {o : MO} {h : Hh} {Q : Kd} (w : new o h Q) : Q (.ref h.length) (h ++ [o]) := by unfold new at w; exact w
theorem put_e {h : Hh} {n : Nat} {o : MO} {P : Hh → Prop} (w : put h n o P) : P (h.set n o) := by unfold put at w; exact w
theorem new_b {o : MO} {h : Hh} {Q : Kd} (w : Q (.ref h.length) (h ++ [o])) : new o h Q := by unfold new; exact w
theorem put_b {h : Hh} {n : Nat} {o : MO} {P : Hh → Prop} (w : P (h.set n o)) : put h n o P := by unfold put; exact w
def lenOk (n : Nat) : Bool := decide (n ≤ sizeLine)
/-- what a tuple, a list holds -/
def seqOf (h : Hh) : D → Option (List D)
  | .tup xs => some xs
  | .ref n => match h[n]? with
    | some (.lst xs) => some xs
    | some (.frz xs) => some xs
    | _ => none
  | _ => none
theorem sq_i {h : Hh} {d : D} {xs : List D} {K : List D → Prop} (e : seqOf h d = some xs) (k : K xs) : sq h d K := by
  cases d with
  | tup ys => cases e; exact k
  | ref n =>
    simp only [seqOf] at e
    split at e
    · rename_i ys hn
      cases e
      exact rdO_i hn k
    · rename_i ys hn
      cases e
      exact rdO_i hn k
    · cases e
  | _ => cases e
theorem sq_e {h : Hh} {d : D} {K : List D → Prop} (w : sq h d K) : ∃ xs, seqOf h d = some xs ∧ K xs := by
  cases d with
  | tup xs => exact ⟨xs, rfl, w⟩
  | ref n =>
    obtain ⟨o, e, k⟩ := rdO_e (show rdO h n _ from w)
    cases o with
    | lst xs => exact ⟨xs, by simp only [seqOf, e], k⟩
    | frz xs => exact ⟨xs, by simp only [seqOf, e], k⟩
    | dic _ => exact k.elim
  | _ => exact w.elim
def natsEq : List Nat → List Nat → Bool
  | [], [] => true
  | x :: xs, y :: ys => Nat.beq x y && natsEq xs ys
  | _, _ => false
theorem natsEq_iff : ∀ {xs ys : List Nat}, natsEq xs ys = true ↔ xs = ys
  | [], [] => by simp [natsEq]
  | [], _ :: _ => by simp [natsEq]
  | _ :: _, [] => by simp [natsEq]
  | x :: xs, y :: ys => by
    have ih := @natsEq_iff xs ys
    simp only [natsEq, Bool.and_eq_true, List.cons.injEq, ih, Nat.beq_eq]
def strEq (a b : Str) : Bool := natsEq a.cps.toList b.cps.toList
theorem strEq_iff {a b : Str} : strEq a b = true ↔ a = b := by
  unfold strEq
  rw [natsEq_iff]
  constructor
  · intro h
    cases a with
    | mk x =>
      cases b with
      | mk y =>
        congr 1
        exact Array.toList_inj.mp h
  · rintro rfl
    rfl
theorem strEq_dec (a b : Str) : strEq a b = decide (a = b) := by
  rw [Bool.eq_iff_iff, strEq_iff]
  simp
theorem strEq_self (a : Str) : strEq a a = true := strEq_iff.mpr rfl
mutual
def D.flat : D → Bool
  | .tup xs => D.flats xs
  | .ref _ => false
  | _ => true
def D.flats : List D → Bool
  | [] => true
  | d :: ds => d.flat && D.flats ds
end
mutual
/-- == of values without objects -/
def eqD : D → D → Bool
  | .non, .non => true
  | .bl a, .bl b => a == b
  | .int a, .int b => a == b
  | .str a, .str b => strEq a b
  | .tup a, .tup b => eqDs a b
  | .int a, .bl b => a == (if b then 1 else 0)
  | .bl a, .int b => (if a then 1 else 0) == b
  | _, _ => false
def eqDs : List D → List D → Bool
  | [], [] => true
  | x :: xs, y :: ys => eqD x y && eqDs xs ys
  | _, _ => false
end
def opEq (x y : D) (Q : Bool → Prop) : Prop := match x, y with
  | .non, .non => Q true
  | .non, .int _ => Q false
  | .int _, .non => Q false
  | .non, .bl _ => Q false
  | .bl _, .non => Q false
  | .non, .str _ => Q false
  | .str _, .non => Q false
  | .int a, .int b => Q (a == b)
  | .bl a, .bl b => Q (a == b)
  | .str a, .str b => Q (strEq a b)
  | .int _, .str _ => Q false
  | .str _, .int _ => Q false
  | .bl _, .str _ => Q false
  | .str _, .bl _ => Q false
  | _, _ => False
def inFlat (x : D) (xs : List D) : Bool := xs.any fun y => eqD y x
def isFl : D → Bool
  | .non => true | .bl _ => true | .int _ => true | .str _ => true | _ => false
def opCmp (op : COp) (x y : D) (h : Hh) (Q : Bool → Prop) : Prop := match op with
  | .eq => opEq x y Q
  | .ne => opEq x y fun b => Q (!b)
  | .lt => (match x, y with | .int i, .int j => Q (decide (i < j)) | _, _ => False)
  | .le => (match x, y with | .int i, .int j => Q (decide (i ≤ j)) | _, _ => False)
  | .gt => (match x, y with | .int i, .int j => Q (decide (j < i)) | _, _ => False)
  | .ge => (match x, y with | .int i, .int j => Q (decide (j ≤ i)) | _, _ => False)
  | .is => (match y with | .non => (match x with | .non => Q true | _ => Q false) | _ => False)
  | .isnot => (match y with | .non => (match x with | .non => Q false | _ => Q true) | _ => False)
  | .isin => sq h y fun xs => chk (isFl x && xs.all isFl) (Q (inFlat x xs))
  | .notin => sq h y fun xs => chk (isFl x && xs.all isFl) (Q (!inFlat x xs))
def mulOk (i j : Int) : Bool := decide (i.natAbs < 2 ^ 64) || (decide (j.natAbs < 2 ^ 64) || (decide (i.natAbs < 2 ^ 9000) && decide (j.natAbs < 2 ^ 9000)))
def opBin (op : BOp) (x y : D) (h : Hh) (Q : Kd) : Prop := match op with
  | .add => (match x, y with
    | .int i, .int j => Q (.int (i + j)) h
    | .str a, .str b => chk (lenOk (a.length + b.length)) (Q (.str (a ++ b)) h)
    | .ref n, .ref m => rdL h n fun xs => rdL h m fun ys => chk (lenOk (xs.length + ys.length)) (new (.lst (xs ++ ys)) h Q)
    | _, _ => False)
  | .sub => (match x, y with | .int i, .int j => Q (.int (i - j)) h | _, _ => False)
  | .mul => (match x, y with
    | .int i, .int j => chk (mulOk i j) (Q (.int (i * j)) h)
    | .ref n, .int k => rdL h n fun xs => chk (decide (k.natAbs < 2 ^ 62) && lenOk (xs.length * k.toNat)) (new (.lst (List.replicate k.toNat xs).flatten) h Q)
    | _, _ => False)
  | .fdiv => (match x, y with | .int i, .int j => chk (decide (0 < j) && decide (j.natAbs < 2 ^ 9000)) (Q (.int (i / j)) h) | _, _ => False)
  | .mod => (match x, y with | .int i, .int j => chk (decide (0 < j)) (Q (.int (i % j)) h) | _, _ => False)
  | .pow => (match x, y with | .int i, .int j => chk (decide (0 ≤ j) && decide (j ≤ 1000000) && decide (i.natAbs < 2 ^ 64)) (Q (.int (i ^ j.toNat)) h) | _, _ => False)
  | .shl => (match x, y with | .int i, .int j => chk (decide (0 ≤ j) && decide (j ≤ 1000000) && decide (i.natAbs < 2 ^ 64)) (Q (.int (i * 2 ^ j.toNat)) h) | _, _ => False)
  | .band => (match x, y with | .int i, .int j => Q (.int (Builtin.bitAnd i j)) h | _, _ => False)
/-- a op= b: no list -/
def opAug (op : BOp) (x y : D) (h : Hh) (Q : Kd) : Prop := match x with
  | .ref _ => False
  | _ => (match op with
    | .pow | .shl | .band => False
    | _ => opBin op x y h Q)
def truth (d : D) (h : Hh) (Q : Bool → Prop) : Prop := match d with
  | .bl b => Q b
  | .non => Q false
  | .int i => Q (i != 0)
  | .tup xs => Q (!xs.isEmpty)
  | .ref n => rdL h n fun xs => Q (!xs.isEmpty)
  | _ => False
/-- the place of an index -/
def ixAt (n : Nat) (i : Int) : Option Nat := if 0 ≤ i then (if i < n then some i.toNat else none) else if -(n : Int) ≤ i then some (i + n).toNat else none
def getAt (xs : List D) (i : Int) : Option D := (ixAt xs.length i).bind fun j => xs[j]?
@[irreducible] def itm (xs : List D) (k : Int) (K : D → Prop) : Prop := match getAt xs k with
  | some d => K d
  | none => False
theorem itm_i {xs : List D} {k : Int} {d : D} {K : D → Prop} (e : getAt xs k = some d) (w : K d) : itm xs k K := by unfold itm; rw [e]; exact w
theorem itm_e {xs : List D} {k : Int} {K : D → Prop} (w : itm xs k K) : ∃ d, getAt xs k = some d ∧ K d := by
  unfold itm at w
  split at w
  · rename_i d e
    exact ⟨d, e, w⟩
  · exact w.elim
def opIx (x i : D) (h : Hh) (Q : Kd) : Prop := match i with
  | .int k => sq h x fun xs => itm xs k fun d => Q d h
  | _ => False
/-- the part of a list from lo to hi -/
def cutD (xs : List D) (lo hi : Option Int) : List D := (xs.drop (HT.sIx xs.length 0 lo)).take (HT.sIx xs.length xs.length hi - HT.sIx xs.length 0 lo)
def opSl (x : D) (l u : Option Int) (h : Hh) (Q : Kd) : Prop := match x with
  | .ref _ => sq h x fun xs => new (.lst (cutD xs l u)) h Q
  | .tup xs => chk (!(decide (HT.sIx xs.length 0 l = 0) && decide (HT.sIx xs.length xs.length u = xs.length))) (Q (.tup (cutD xs l u)) h)
  | _ => False
def intsOf : List D → Option (List Int)
  | [] => some []
  | .int i :: r => (intsOf r).map (i :: ·)
  | _ => none
@[irreducible] def iLst (ys : List D) (K : List Int → Prop) : Prop := match intsOf ys with
  | some ms => K ms
  | none => False
theorem iLst_i {ys : List D} {ms : List Int} {K : List Int → Prop} (e : intsOf ys = some ms) (w : K ms) : iLst ys K := by unfold iLst; rw [e]; exact w
theorem iLst_e {ys : List D} {K : List Int → Prop} (w : iLst ys K) : ∃ ms, intsOf ys = some ms ∧ K ms := by
  unfold iLst at w
  split at w
  · rename_i d e
    exact ⟨d, e, w⟩
  · exact w.elim
def maxI : Int → List Int → Int
  | m, [] => m
  | m, x :: xs => maxI (if x > m then x else m) xs
def minI : Int → List Int → Int
  | m, [] => m
  | m, x :: xs => minI (if x < m then x else m) xs
def opBlt (f : Blt) (xs : List D) (h : Hh) (Q : Kd) : Prop := match f, xs with
  | .len, [x] => (match x with
    | .str s => chk (lenOk s.length) (Q (.int s.length) h)
    | _ => sq h x fun ys => Q (.int ys.length) h)
  | .int, [.int i] => Q (.int i) h
  | .int, [.bl b] => Q (.int (if b then 1 else 0)) h
  | .abs, [.int i] => Q (.int (if i < 0 then -i else i)) h
  | .max, [.int i, .int j] => Q (.int (if j > i then j else i)) h
  | .min, [.int i, .int j] => Q (.int (if j < i then j else i)) h
  | .max, [.int i, .int j, .int k] => Q (.int (if k > (if j > i then j else i) then k else (if j > i then j else i))) h
  | .min, [.int i, .int j, .int k] => Q (.int (if k < (if j < i then j else i) then k else (if j < i then j else i))) h
  | .max, [.ref n] => rdL h n fun ys => iLst ys fun ms => (match ms with
    | m :: ms => Q (.int (maxI m ms)) h
    | [] => False)
  | .min, [.ref n] => rdL h n fun ys => iLst ys fun ms => (match ms with
    | m :: ms => Q (.int (minI m ms)) h
    | [] => False)
  | .sum, [.ref n] => rdL h n fun ys => iLst ys fun ms => Q (.int ms.sum) h
  | .tuple, [x] => sq h x fun ys => Q (.tup ys) h
  | .list, [x] => sq h x fun ys => new (.lst ys) h Q
  | _, _ => False
def tyOf : D → Option Tyn
  | .bl _ => some .bool
  | .int _ => some .int
  | .str _ => some .str
  | .tup _ => some .tuple
  | _ => none
def isTy (t u : Tyn) : Bool := decide (t = u) || (decide (t = .bool) && decide (u = .int))
def opIsi (x : D) (ts : List Tyn) (h : Hh) (Q : Kd) : Prop := match x with
  | .non => Q (.bl false) h
  | .ref n => rdL h n fun _ => Q (.bl (ts.any fun u => isTy .list u)) h
  | _ => (match tyOf x with
    | some t => Q (.bl (ts.any fun u => isTy t u)) h
    | none => False)
def opMeth (m : Mth) (o : D) (xs : List D) (h : Hh) (Q : Kd) : Prop := match o with
  | .ref n => rdL h n fun ys => (match m, xs with
    | .append, [d] => chk (decide (ys.length < sizeLine)) (put h n (.lst (ys ++ [d])) fun h' => Q .non h')
    | .pop, [] => itm ys (-1) fun d => put h n (.lst ys.dropLast) fun h' => Q d h'
    | .popAt, [.int i] => chk (decide (i.natAbs < 2 ^ 62)) (itm ys i fun d => put h n (.lst (ys.eraseIdx ((ixAt ys.length i).getD 0))) fun h' => Q d h')
    | .extend, [x] => (match x with
      | .ref k => rdL h k fun zs => chk (lenOk (ys.length + zs.length)) (put h n (.lst (ys ++ zs)) fun h' => Q .non h')
      | .tup zs => chk (lenOk (ys.length + zs.length)) (put h n (.lst (ys ++ zs)) fun h' => Q .non h')
      | _ => False)
    | _, _ => False)
  | _ => False
/-- is the receiver of the method's type? -/
def rcv (_ : Mth) (x : D) (h : Hh) (P : Prop) : Prop := match x with
  | .ref n => rdL h n fun _ => P
  | _ => False
def opSet (o i v : D) (h : Hh) (Q : Hh → Prop) : Prop := match o, i with
  | .ref n, .int k => rdL h n fun ys => itm ys k fun _ => put h n (.lst (ys.set ((ixAt ys.length k).getD 0) v)) Q
  | _, _ => False

/-! ### slots -/
def look (σ : Sg) (i : Nat) (Q : D → Prop) : Prop := match σ[i]? with
  | some (some d) => Q d
  | _ => False
def puts : List Nat → List D → Sg → (Sg → Prop) → Prop
  | [], [], σ, Q => Q σ
  | i :: is, d :: ds, σ, Q => puts is ds (σ.set i (some d)) Q
  | _, _, _, _ => False
def wipes (σ : Sg) : List Nat → Sg
  | [] => σ
  | v :: vs => (wipes σ vs).set v none
def range : Nat → Int → Nat → List D
  | 0, _, _ => []
  | n + 1, lo, k => .int (lo + k) :: range n lo (k + 1)
/-- what a loop walks: items that stand, or a list as it stands at each turn -/
inductive MW where
  | snap (xs : List D) | live (n : Nat)
def walkOf (h : Hh) (d : D) (Q : MW → Prop) : Prop := match d with
  | .tup xs => Q (.snap xs)
  | .ref n => rdO h n fun o => (match o with
    | .lst _ => Q (.live n)
    | .frz xs => Q (.snap xs)
    | _ => False)
  | _ => False
structure Es where
  nx : Sg → Hh → Prop
  rt : Kd
  bk : Sg → Hh → Prop
  ct : Sg → Hh → Prop
@[irreducible] def fuel : Nat := 1000000000

/-- a loop's turns -/
def loopS (t : D → Sg → Hh → (Sg → Hh → Prop) → Prop) (b : Es → Sg → Hh → Prop) (R : Es) : List D → Sg → Hh → Prop
  | [], σ, h => R.nx σ h
  | x :: xs, σ, h => t x σ h fun σ1 h1 => b { nx := loopS t b R xs, rt := R.rt, bk := R.nx, ct := loopS t b R xs } σ1 h1
def loopL (t : D → Sg → Hh → (Sg → Hh → Prop) → Prop) (b : Es → Sg → Hh → Prop) (R : Es) (n : Nat) : Nat → Nat → Sg → Hh → Prop
  | 0, _, _, _ => False
  | k + 1, i, σ, h => match h[n]? with
    | some (.lst xs) => (match xs[i]? with
      | none => R.nx σ h
      | some x => t x σ h fun σ1 h1 => b { nx := loopL t b R n k (i + 1), rt := R.rt, bk := R.nx, ct := loopL t b R n k (i + 1) } σ1 h1)
    | _ => False
def loopW (c : Sg → Hh → (Bool → Hh → Prop) → Prop) (b : Es → Sg → Hh → Prop) (R : Es) : Nat → Sg → Hh → Prop
  | 0, _, _ => False
  | k + 1, σ, h => c σ h fun d h1 => br d (b { nx := loopW c b R k, rt := R.rt, bk := R.nx, ct := loopW c b R k } σ h1) (R.nx σ h1)
/-- a comprehension's turns: the new list at p -/
def compS (t : D → Sg → Hh → (Sg → Hh → Prop) → Prop) (c : Sg → Hh → (Bool → Hh → Prop) → Prop) (e : Sg → Hh → Kd → Prop) (σ0 : Sg) (p : Nat) (Q : Kd) : List D → Hh → Prop
  | [], h => Q (.ref p) h
  | x :: xs, h => t x σ0 h fun σ1 h1 => c σ1 h1 fun d h2 => br d
      (e σ1 h2 fun y h3 => rdL h3 p fun acc => chk (decide (acc.length < sizeLine)) (put h3 p (.lst (acc ++ [y])) fun h4 => compS t c e σ0 p Q xs h4))
      (compS t c e σ0 p Q xs h2)
def compL (t : D → Sg → Hh → (Sg → Hh → Prop) → Prop) (c : Sg → Hh → (Bool → Hh → Prop) → Prop) (e : Sg → Hh → Kd → Prop) (σ0 : Sg) (p : Nat) (Q : Kd) (n : Nat) : Nat → Nat → Hh → Prop
  | 0, _, _ => False
  | k + 1, i, h => match h[n]? with
    | some (.lst xs) => (match xs[i]? with
      | none => Q (.ref p) h
      | some x => t x σ0 h fun σ1 h1 => c σ1 h1 fun d h2 => br d
        (e σ1 h2 fun y h3 => rdL h3 p fun acc => chk (decide (acc.length < sizeLine)) (put h3 p (.lst (acc ++ [y])) fun h4 => compL t c e σ0 p Q n k (i + 1) h4))
        (compL t c e σ0 p Q n k (i + 1) h2))
    | _ => False
def slotsOf : MT → List Nat
  | .name i => [i]
  | .tup is => is
  | .sub _ _ => []

/-! ### the run -/
section
variable (gls : List D) (C : Cl) (X : Ex)
mutual
def wE : ME → Sg → Hh → Kd → Prop
  | .non, _, h, Q => Q .non h
  | .bl b, _, h, Q => Q (.bl b) h
  | .int i, _, h, Q => Q (.int i) h
  | .str x, _, h, Q => Q (.str x) h
  | .var i, σ, h, Q => look σ i fun d => Q d h
  | .gl i, _, h, Q => (match gls[i]? with
    | some d => Q d h
    | none => False)
  | .bin op a b, σ, h, Q => wE a σ h fun x h1 => wE b σ h1 fun y h2 => opBin op x y h2 Q
  | .neg a, σ, h, Q => wE a σ h fun x h1 => (match x with | .int i => Q (.int (-i)) h1 | _ => False)
  | .not a, σ, h, Q => wE a σ h fun x h1 => truth x h1 fun b => Q (.bl (!b)) h1
  | .cmp op a b, σ, h, Q => wE a σ h fun x h1 => wE b σ h1 fun y h2 => opCmp op x y h2 fun b => Q (.bl b) h2
  | .chain op op' a b c, σ, h, Q => wE a σ h fun x h1 => wE b σ h1 fun y h2 => opCmp op x y h2 fun r => br r
      (wE c σ h2 fun z h3 => opCmp op' y z h3 fun r' => Q (.bl r') h3) (Q (.bl false) h2)
  | .and a b, σ, h, Q => wE a σ h fun x h1 => (match x with | .bl r => br r (wE b σ h1 Q) (Q (.bl false) h1) | _ => False)
  | .or a b, σ, h, Q => wE a σ h fun x h1 => (match x with | .bl r => br r (Q (.bl true) h1) (wE b σ h1 Q) | _ => False)
  | .ife t a b, σ, h, Q => wT t σ h fun r h1 => br r (wE a σ h1 Q) (wE b σ h1 Q)
  | .call f es, σ, h, Q => wEs es σ h fun ds h1 => C f ds h1 Q X
  | .blt f es, σ, h, Q => wEs es σ h fun ds h1 => opBlt f ds h1 Q
  | .isi a ts, σ, h, Q => wE a σ h fun x h1 => opIsi x ts h1 Q
  | .meth m o es, σ, h, Q => wE o σ h fun x h1 => rcv m x h1 (wEs es σ h1 fun ds h2 => opMeth m x ds h2 Q)
  | .ix a i, σ, h, Q => wE a σ h fun x h1 => wE i σ h1 fun y h2 => opIx x y h2 Q
  | .sl a lo hi, σ, h, Q => wE a σ h fun x h1 => wEo lo σ h1 fun l h2 => wEo hi σ h2 fun u h3 => opSl x l u h3 Q
  | .tup es, σ, h, Q => wEs es σ h fun ds h1 => chk (lenOk ds.length) (Q (.tup ds) h1)
  | .lst es, σ, h, Q => wEs es σ h fun ds h1 => chk (lenOk ds.length) (new (.lst ds) h1 Q)
  | .lc elt t it c, σ, h, Q => wI it σ h fun w h1 => new (.lst []) h1 fun r h2 => (match r with
      | .ref p => (match w with
        | .snap xs => compS (wG t) (wC c) (wE elt) (wipes σ (slotsOf t)) p Q xs h2
        | .live n => compL (wG t) (wC c) (wE elt) (wipes σ (slotsOf t)) p Q n fuel 0 h2)
      | _ => False)
/-- as a test -/
def wT : ME → Sg → Hh → (Bool → Hh → Prop) → Prop
  | .not a, σ, h, Q => wT a σ h fun b h1 => Q (!b) h1
  | .and a b, σ, h, Q => wT a σ h fun r h1 => br r (wT b σ h1 Q) (Q false h1)
  | .or a b, σ, h, Q => wT a σ h fun r h1 => br r (Q true h1) (wT b σ h1 Q)
  | .cmp op a b, σ, h, Q => wE a σ h fun x h1 => wE b σ h1 fun y h2 => opCmp op x y h2 fun b => Q b h2
  | .chain op op' a b c, σ, h, Q => wE a σ h fun x h1 => wE b σ h1 fun y h2 => opCmp op x y h2 fun r => br r
      (wE c σ h2 fun z h3 => opCmp op' y z h3 fun r' => Q r' h3) (Q false h2)
  | .ife _ _ _, _, _, _ => False
  | .bl b, _, h, Q => Q b h
  | .var i, σ, h, Q => look σ i fun d => truth d h fun b => Q b h
  | .call f es, σ, h, Q => wEs es σ h fun ds h1 => C f ds h1 (fun d h2 => truth d h2 fun b => Q b h2) X
  | .isi a ts, σ, h, Q => wE a σ h fun x h1 => opIsi x ts h1 fun d h2 => truth d h2 fun b => Q b h2
  | .ix a i, σ, h, Q => wE a σ h fun x h1 => wE i σ h1 fun y h2 => opIx x y h2 fun d h3 => truth d h3 fun b => Q b h3
  | _, _, _, _ => False
def wEs : MEs → Sg → Hh → (List D → Hh → Prop) → Prop
  | .nil, _, h, Q => Q [] h
  | .cons e es, σ, h, Q => wE e σ h fun x h1 => wEs es σ h1 fun xs h2 => Q (x :: xs) h2
def wEo : MEo → Sg → Hh → (Option Int → Hh → Prop) → Prop
  | .none, _, h, Q => Q none h
  | .some e, σ, h, Q => wE e σ h fun x h1 => (match x with | .int i => Q (some i) h1 | _ => False)
def wC : MEo → Sg → Hh → (Bool → Hh → Prop) → Prop
  | .none, _, h, Q => Q true h
  | .some e, σ, h, Q => wT e σ h Q
def wG : MT → D → Sg → Hh → (Sg → Hh → Prop) → Prop
  | .name i, d, σ, h, Q => Q (σ.set i (some d)) h
  | .tup is, d, σ, h, Q => (match d with
    | .tup ds => puts is ds σ fun σ1 => Q σ1 h
    | _ => False)
  | .sub a i, d, σ, h, Q => wE a σ h fun o h1 => wE i σ h1 fun k h2 => opSet o k d h2 fun h3 => Q σ h3
def wI : MI → Sg → Hh → (MW → Hh → Prop) → Prop
  | .seq e, σ, h, Q => wE e σ h fun d h1 => walkOf h1 d fun w => Q w h1
  | .rng1 a, σ, h, Q => wE a σ h fun d h1 => (match d with
    | .int n => chk (decide (n.natAbs < 2 ^ 62)) (Q (.snap (range n.toNat 0 0)) h1)
    | _ => False)
  | .rng2 a b, σ, h, Q => wE a σ h fun d h1 => wE b σ h1 fun e h2 => (match d, e with
    | .int lo, .int hi => chk (decide (lo.natAbs < 2 ^ 62) && decide (hi.natAbs < 2 ^ 62)) (Q (.snap (range (hi - lo).toNat lo 0)) h2)
    | _, _ => False)
end
mutual
def wS : MS → Es → Sg → Hh → Prop
  | .expr e, R, σ, h => wE gls C X e σ h fun _ h1 => R.nx σ h1
  | .asg t e, R, σ, h => wE gls C X e σ h fun d h1 => wG gls C X t d σ h1 R.nx
  | .aug i op e, R, σ, h => look σ i fun d => wE gls C X e σ h fun y h1 => opAug op d y h1 fun z h2 => R.nx (σ.set i (some z)) h2
  | .ret e, R, σ, h => wE gls C X e σ h R.rt
  | .retN, R, _, h => R.rt .non h
  | .pass, R, σ, h => R.nx σ h
  | .brk, R, σ, h => R.bk σ h
  | .cnt, R, σ, h => R.ct σ h
  | .ife t a b, R, σ, h => wT gls C X t σ h fun r h1 => br r (wB a R σ h1) (wB b R σ h1)
  | .whl t b, R, σ, h => loopW (wT gls C X t) (wB b) R fuel σ h
  | .forr t it b, R, σ, h => wI gls C X it σ h fun w h1 => (match w with
    | .snap xs => loopS (wG gls C X t) (wB b) R xs σ h1
    | .live n => loopL (wG gls C X t) (wB b) R n fuel 0 σ h1)
def wB : MB → Es → Sg → Hh → Prop
  | .nil, R, σ, h => R.nx σ h
  | .cons s b, R, σ, h => wS s { R with nx := wB b R } σ h
end
end
/-- the run of a def: n calls deep at most -/
def run (gls : List D) (tb : List MF) : Nat → Cl
  | 0, _, _, _, _, _ => False
  | n + 1, f, ds, h, Q, X => match tb[f]? with
    | some m => chk (decide (ds.length = m.np)) (wB gls (run gls tb n) X m.body
        { nx := fun _ h' => Q .non h', rt := Q, bk := fun _ _ => False, ct := fun _ _ => False } (ds.map some ++ List.replicate (m.ns - m.np) none) h)
    | none => False
end Mi

set_option Elab.async false
set_option linter.all false
set_option maxRecDepth 100000
/-! Mi: how its values and objects lie in the layer's heap. -/
namespace Mi
open PySem PySem.Spec PyProof.Rows L2

section
variable (K : PySem.W.Frag) (loc : List Addr) (H : Hp)
mutual
def RD : D → V → Prop
  | .non, v => v = .non
  | .bl b, v => v = .bl b
  | .int i, v => v = .int i
  | .str x, v => v = .str x
  | .tup ds, v => ∃ a vs, v = .ref a ∧ SqT K H a vs ∧ RDs ds vs
  | .ref n, v => ∃ a, v = .ref a ∧ loc[n]? = some a
def RDs : List D → List V → Prop
  | [], vs => vs = []
  | d :: ds, vs => ∃ v r, vs = v :: r ∧ RD d v ∧ RDs ds r
end
end
/-- a list that nobody changes -/
def Fz (K : PySem.W.Frag) (H : Hp) (a : Addr) (vs : List V) : Prop :=
  (∃ o, H a = some (.frz o (.lst vs))) ∨ ∃ (o : Obj) (its : Array Value) (n : Nat), K.lookup a = some o ∧ o.cls = .type "list" ∧ o.dict = none ∧ o.data = .seq its n ∧ its.size ≤ sizeLine ∧ Vals vs its.toList
theorem Fz.sq {K : PySem.W.Frag} {H : Hp} {a : Addr} {vs : List V} (f : Fz K H a vs) : SqL K H a vs := by
  rcases f with ⟨o, e⟩ | f
  · exact .inl (.inr ⟨o, e⟩)
  · exact .inr f
def isKey (k : Key) (d : D) : Prop := match k with
  | .inl i => d = .int i
  | .inr x => d = .str x
def OR (K : PySem.W.Frag) (loc : List Addr) (H : Hp) (a : Addr) : MO → Prop
  | .lst ds => ∃ vs, H a = some (.lst vs) ∧ RDs K loc H ds vs
  | .frz ds => ∃ vs, Fz K H a vs ∧ RDs K loc H ds vs
  | .dic _ => False
def mutO : MO → Bool
  | .frz _ => false
  | _ => true
structure RH (K : PySem.W.Frag) (loc : List Addr) (H : Hp) (h : Hh) : Prop where
  len : loc.length = h.length
  ob : ∀ (n : Nat) (o : MO), h[n]? = some o → ∃ a : Addr, loc[n]? = some a ∧ OR K loc H a o
  inj : ∀ (i j : Nat) (a : Addr) (oi oj : MO), h[i]? = some oi → h[j]? = some oj → mutO oi = true → mutO oj = true → loc[i]? = some a → loc[j]? = some a → i = j
/-- a later state -/
structure Xt (K : PySem.W.Frag) (loc : List Addr) (H : Hp) (loc' : List Addr) (H' : Hp) : Prop where
  tp : ∀ a xs, SqT K H a xs → SqT K H' a xs
  fz : ∀ a xs, Fz K H a xs → Fz K H' a xs
  lc : ∀ (n : Nat) (a : Addr), loc[n]? = some a → loc'[n]? = some a
section
variable {K : PySem.W.Frag} {loc loc' loc2 : List Addr} {H H' H2 : Hp} {h h' : Hh}
theorem Xt.refl : Xt K loc H loc H := ⟨fun _ _ q => q, fun _ _ q => q, fun _ _ q => q⟩
theorem Xt.trans (a : Xt K loc H loc' H') (b : Xt K loc' H' loc2 H2) : Xt K loc H loc2 H2 := ⟨fun _ _ q => b.tp _ _ (a.tp _ _ q), fun _ _ q => b.fz _ _ (a.fz _ _ q), fun _ _ q => b.lc _ _ (a.lc _ _ q)⟩
mutual
theorem RD.mono (x : Xt K loc H loc' H') : ∀ (d : D) (v : V), RD K loc H d v → RD K loc' H' d v
  | .non, v, r => by rw [RD] at r ⊢; exact r
  | .bl b, v, r => by rw [RD] at r ⊢; exact r
  | .int i, v, r => by rw [RD] at r ⊢; exact r
  | .str z, v, r => by rw [RD] at r ⊢; exact r
  | .tup ds, v, r => by
    rw [RD] at r ⊢
    obtain ⟨a, vs, e, s, q⟩ := r
    exact ⟨a, vs, e, x.tp _ _ s, RDs.mono x ds vs q⟩
  | .ref n, v, r => by
    rw [RD] at r ⊢
    obtain ⟨a, e, q⟩ := r
    exact ⟨a, e, x.lc _ _ q⟩
theorem RDs.mono (x : Xt K loc H loc' H') : ∀ (ds : List D) (vs : List V), RDs K loc H ds vs → RDs K loc' H' ds vs
  | [], vs, r => by rw [RDs] at r ⊢; exact r
  | d :: ds, vs, r => by
    rw [RDs] at r ⊢
    obtain ⟨v, t, e, q1, q2⟩ := r
    exact ⟨v, t, e, RD.mono x d v q1, RDs.mono x ds t q2⟩
end
theorem RDs.nil : RDs K loc H [] [] := by rw [RDs]
theorem RDs.cons {d : D} {v : V} {ds : List D} {vs : List V} (a : RD K loc H d v) (b : RDs K loc H ds vs) : RDs K loc H (d :: ds) (v :: vs) := by rw [RDs]; exact ⟨v, vs, rfl, a, b⟩
theorem RDs.length : ∀ {ds : List D} {vs : List V}, RDs K loc H ds vs → vs.length = ds.length
  | [], vs, r => by rw [RDs] at r; rw [r]; rfl
  | d :: ds, vs, r => by
    rw [RDs] at r
    obtain ⟨v, t, rfl, _, q⟩ := r
    simp [q.length]
theorem RDs.at_ : ∀ {ds : List D} {vs : List V}, RDs K loc H ds vs → ∀ {i : Nat} {d : D}, ds[i]? = some d → ∃ v, vs[i]? = some v ∧ RD K loc H d v
  | [], _, _, _, _, e => by simp at e
  | d :: ds, vs, r, 0, _, e => by
    rw [RDs] at r
    obtain ⟨v, t, rfl, q1, _⟩ := r
    simp at e
    subst e
    exact ⟨v, rfl, q1⟩
  | d :: ds, vs, r, i + 1, _, e => by
    rw [RDs] at r
    obtain ⟨v, t, rfl, _, q⟩ := r
    exact q.at_ (i := i) (by simpa using e)
theorem RDs.of : ∀ {ds : List D} {vs : List V}, vs.length = ds.length → (∀ (i : Nat) (v : V) (d : D), vs[i]? = some v → ds[i]? = some d → RD K loc H d v) → RDs K loc H ds vs
  | [], vs, e, _ => by rw [RDs]; exact List.length_eq_zero_iff.mp e
  | d :: ds, [], e, _ => by simp at e
  | d :: ds, v :: vs, e, q => .cons (q 0 v d rfl rfl) (RDs.of (by simpa using e) fun i w f a b => q (i + 1) w f (by simpa using a) (by simpa using b))
theorem RDs.pt {ds : List D} {vs : List V} (r : RDs K loc H ds vs) {i : Nat} {v : V} {d : D} (a : vs[i]? = some v) (b : ds[i]? = some d) : RD K loc H d v := by
  obtain ⟨w, e, q⟩ := r.at_ b
  rw [a] at e
  cases e
  exact q
theorem RDs.append {ds es : List D} {vs ws : List V} (r : RDs K loc H ds vs) (q : RDs K loc H es ws) : RDs K loc H (ds ++ es) (vs ++ ws) := by
  have l1 := r.length
  have l2 := q.length
  refine RDs.of (by simp [l1, l2]) fun i v d a b => ?_
  by_cases hi : i < ds.length
  · rw [List.getElem?_append_left (by omega)] at a b
    exact r.pt a b
  · rw [List.getElem?_append_right (by omega)] at a b
    rw [l1] at a
    exact q.pt a b
theorem RDs.take {ds : List D} {vs : List V} (r : RDs K loc H ds vs) (n : Nat) : RDs K loc H (ds.take n) (vs.take n) := by
  have l1 := r.length
  refine RDs.of (by simp [l1]) fun i v d a b => ?_
  rw [List.getElem?_take] at a b
  split at a
  · rename_i h
    rw [if_pos h] at b
    exact r.pt a b
  · cases a
theorem RDs.drop {ds : List D} {vs : List V} (r : RDs K loc H ds vs) (n : Nat) : RDs K loc H (ds.drop n) (vs.drop n) := by
  have l1 := r.length
  refine RDs.of (by simp [l1]) fun i v d a b => ?_
  rw [List.getElem?_drop] at a b
  exact r.pt a b
theorem RDs.set {ds : List D} {vs : List V} (r : RDs K loc H ds vs) (n : Nat) {d : D} {v : V} (q : RD K loc H d v) : RDs K loc H (ds.set n d) (vs.set n v) := by
  have l1 := r.length
  refine RDs.of (by simp [l1]) fun i w f a b => ?_
  rw [List.getElem?_set] at a b
  split at a
  · rename_i h
    rw [if_pos h] at b
    split at a
    · rename_i h2
      rw [if_pos (by omega)] at b
      cases a
      cases b
      exact q
    · cases a
  · rename_i h
    rw [if_neg h] at b
    exact r.pt a b
theorem RDs.eraseIdx {ds : List D} {vs : List V} (r : RDs K loc H ds vs) (n : Nat) : RDs K loc H (ds.eraseIdx n) (vs.eraseIdx n) := by
  have l1 := r.length
  rw [List.eraseIdx_eq_take_drop_succ, List.eraseIdx_eq_take_drop_succ]
  exact (r.take n).append (r.drop (n + 1))
theorem RDs.dropLast {ds : List D} {vs : List V} (r : RDs K loc H ds vs) : RDs K loc H ds.dropLast vs.dropLast := by
  have l1 := r.length
  rw [List.dropLast_eq_take, List.dropLast_eq_take, l1]
  exact r.take _
theorem RDs.rep {ds : List D} {vs : List V} (r : RDs K loc H ds vs) : ∀ n : Nat, RDs K loc H (List.replicate n ds).flatten (List.replicate n vs).flatten
  | 0 => RDs.nil
  | n + 1 => by
    rw [List.replicate_succ, List.replicate_succ, List.flatten_cons, List.flatten_cons]
    exact r.append (r.rep n)
theorem RDs.isEmpty {ds : List D} {vs : List V} (r : RDs K loc H ds vs) : vs.isEmpty = ds.isEmpty := by
  have l1 := r.length
  cases ds <;> cases vs <;> simp at l1 <;> rfl

/-! ### the heap's steps -/
theorem sqt_upd {a p : Addr} {xs : List V} {o : HO} (hp : H p = none ∨ (∃ vs, H p = some (.lst vs)) ∨ ∃ kvs, H p = some (.dK kvs)) (q : SqT K H a xs) : SqT K (upd H p o) a xs := by
  rcases q with (q | ⟨ob, q⟩) | q
  · refine .inl (.inl ?_)
    have : a ≠ p := by
      rintro rfl
      rcases hp with e | ⟨_, e⟩ | ⟨_, e⟩ <;> (rw [q] at e; cases e)
    rw [upd_ne this]
    exact q
  · refine .inl (.inr ⟨ob, ?_⟩)
    have : a ≠ p := by
      rintro rfl
      rcases hp with e | ⟨_, e⟩ | ⟨_, e⟩ <;> (rw [q] at e; cases e)
    rw [upd_ne this]
    exact q
  · exact .inr q
theorem fz_upd {a p : Addr} {xs : List V} {o : HO} (hp : H p = none ∨ (∃ vs, H p = some (.lst vs)) ∨ ∃ kvs, H p = some (.dK kvs)) (q : Fz K H a xs) : Fz K (upd H p o) a xs := by
  rcases q with ⟨ob, q⟩ | q
  · refine .inl ⟨ob, ?_⟩
    have : a ≠ p := by
      rintro rfl
      rcases hp with e | ⟨_, e⟩ | ⟨_, e⟩ <;> (rw [q] at e; cases e)
    rw [upd_ne this]
    exact q
  · exact .inr q
theorem RH.mutH (r : RH K loc H h) {n : Nat} {o : MO} {a : Addr} (e : h[n]? = some o) (m : mutO o = true) (l : loc[n]? = some a) : (∃ vs, H a = some (.lst vs)) ∨ ∃ kvs, H a = some (.dK kvs) := by
  obtain ⟨b, l2, q⟩ := r.ob n o e
  rw [l] at l2
  cases l2
  cases o with
  | lst ds => obtain ⟨vs, e, _⟩ := q; exact .inl ⟨vs, e⟩
  | frz ds => cases m
  | dic kvs => exact q.elim
theorem RH.notin (r : RH K loc H h) {p : Addr} (hp : H p = none) {n : Nat} {o : MO} {a : Addr} (e : h[n]? = some o) (m : mutO o = true) (l : loc[n]? = some a) : a ≠ p := by
  rintro rfl
  rcases r.mutH e m l with ⟨_, q⟩ | ⟨_, q⟩ <;> (rw [hp] at q; cases q)
/-- the objects but one, behind a store at p -/
theorem OR.step {a p : Addr} {o : MO} {u : HO} (hp : H p = none ∨ (∃ vs, H p = some (.lst vs)) ∨ ∃ kvs, H p = some (.dK kvs)) (hap : mutO o = true → a ≠ p) (x : Xt K loc H loc' (upd H p u)) (q : OR K loc H a o) : OR K loc' (upd H p u) a o := by
  cases o with
  | lst ds =>
    obtain ⟨vs, e, r⟩ := q
    exact ⟨vs, by rw [upd_ne (hap rfl)]; exact e, r.mono x⟩
  | frz ds =>
    obtain ⟨vs, e, r⟩ := q
    exact ⟨vs, fz_upd hp e, r.mono x⟩
  | dic kvs => exact q.elim
theorem Xt.new {p : Addr} {u : HO} (hp : H p = none) : Xt K loc H (loc ++ [p]) (upd H p u) :=
  ⟨fun a xs q => sqt_upd (.inl hp) q, fun a xs q => fz_upd (.inl hp) q, fun n a q => by
    obtain ⟨hl, _⟩ := List.getElem?_eq_some_iff.mp q
    rw [List.getElem?_append_left hl]
    exact q⟩
theorem Xt.hid {p : Addr} {u : HO} (hp : H p = none ∨ (∃ vs, H p = some (.lst vs)) ∨ ∃ kvs, H p = some (.dK kvs)) : Xt K loc H loc (upd H p u) := ⟨fun a xs q => sqt_upd hp q, fun a xs q => fz_upd hp q, fun _ _ q => q⟩
/-- a tuple is laid: no object of ours -/
theorem RH.hid (r : RH K loc H h) {p : Addr} {u : HO} (hp : H p = none) : RH K loc (upd H p u) h where
  len := r.len
  ob := fun n o e => by
    obtain ⟨a, l, q⟩ := r.ob n o e
    exact ⟨a, l, q.step (.inl hp) (fun m => r.notin hp e m l) (Xt.hid (.inl hp))⟩
  inj := r.inj
theorem RH.new (r : RH K loc H h) {p : Addr} {vs : List V} {ds : List D} (hp : H p = none) (q : RDs K loc H ds vs) : RH K (loc ++ [p]) (upd H p (.lst vs)) (h ++ [.lst ds]) where
  len := by simp [r.len]
  ob := fun n o e => by
    by_cases hn : n < h.length
    · rw [List.getElem?_append_left hn] at e
      obtain ⟨a, l, q2⟩ := r.ob n o e
      exact ⟨a, (Xt.new (K := K) (u := .lst vs) hp).lc _ _ l, q2.step (.inl hp) (fun m => r.notin hp e m l) (Xt.new hp)⟩
    · rw [List.getElem?_append_right (by omega)] at e
      have hn2 : n = h.length := by
        by_cases z : n - h.length = 0
        · omega
        · rw [List.getElem?_eq_none (by simp; omega)] at e
          cases e
      subst hn2
      simp at e
      subst e
      refine ⟨p, by rw [← r.len]; simp, vs, upd_same, q.mono (Xt.new hp)⟩
  inj := fun i j a oi oj ei ej mi mj li lj => by
    have key : ∀ (n : Nat) (o : MO), (h ++ [.lst ds])[n]? = some o → (n < h.length ∧ h[n]? = some o) ∨ n = h.length := fun n o e => by
      by_cases hn : n < h.length
      · rw [List.getElem?_append_left hn] at e
        exact .inl ⟨hn, e⟩
      · rw [List.getElem?_append_right (by omega)] at e
        right
        by_cases z : n - h.length = 0
        · omega
        · rw [List.getElem?_eq_none (by simp; omega)] at e
          cases e
    have lk : ∀ (n : Nat) (a : Addr), n < h.length → (loc ++ [p])[n]? = some a → loc[n]? = some a := fun n a hn e => by
      rw [List.getElem?_append_left (by rw [r.len]; exact hn)] at e
      exact e
    have lp : ∀ a : Addr, (loc ++ [p])[h.length]? = some a → a = p := fun a e => by
      rw [← r.len] at e
      simp at e
      exact e.symm
    rcases key i oi ei with ⟨hi, ei'⟩ | hi <;> rcases key j oj ej with ⟨hj, ej'⟩ | hj
    · exact r.inj i j a oi oj ei' ej' mi mj (lk _ _ hi li) (lk _ _ hj lj)
    · subst hj
      have := lp _ lj
      subst this
      exact absurd rfl (r.notin hp ei' mi (lk _ _ hi li))
    · subst hi
      have := lp _ li
      subst this
      exact absurd rfl (r.notin hp ej' mj (lk _ _ hj lj))
    · omega
theorem RH.set (r : RH K loc H h) {n : Nat} {a : Addr} {vs : List V} {ds old : List D} (e : h[n]? = some (.lst old)) (l : loc[n]? = some a) (q : RDs K loc H ds vs) : RH K loc (upd H a (.lst vs)) (h.set n (.lst ds)) := by
  have hm := r.mutH e rfl l
  have hx : Xt K loc H loc (upd H a (.lst vs)) := Xt.hid (.inr hm)
  have hn : n < h.length := (List.getElem?_eq_some_iff.mp e).1
  refine ⟨by simp [r.len], fun m o e2 => ?_, fun i j b oi oj ei ej mi mj li lj => ?_⟩
  · by_cases hmn : n = m
    · subst hmn
      rw [List.getElem?_set_self hn] at e2
      cases e2
      exact ⟨a, l, vs, upd_same, q.mono hx⟩
    · rw [List.getElem?_set_ne hmn] at e2
      obtain ⟨b, lb, q2⟩ := r.ob m o e2
      refine ⟨b, lb, q2.step (.inr hm) (fun mo => ?_) hx⟩
      rintro rfl
      exact hmn (r.inj n m b _ o e e2 rfl mo l lb)
  · have key : ∀ (m : Nat) (o : MO), (h.set n (.lst ds))[m]? = some o → mutO o = true → ∃ o', h[m]? = some o' ∧ mutO o' = true := fun m o e2 m2 => by
      by_cases hmn : n = m
      · subst hmn
        exact ⟨_, e, rfl⟩
      · rw [List.getElem?_set_ne hmn] at e2
        exact ⟨o, e2, m2⟩
    obtain ⟨oi', ei', mi'⟩ := key i oi ei mi
    obtain ⟨oj', ej', mj'⟩ := key j oj ej mj
    exact r.inj i j b oi' oj' ei' ej' mi' mj' li lj
/-- a list of ours, read -/
theorem RH.lst (r : RH K loc H h) {n : Nat} {ds : List D} {v : V} (e : h[n]? = some (.lst ds)) (q : RD K loc H (.ref n) v) : ∃ a vs, v = .ref a ∧ loc[n]? = some a ∧ H a = some (.lst vs) ∧ RDs K loc H ds vs := by
  rw [RD] at q
  obtain ⟨a, rfl, l⟩ := q
  obtain ⟨b, l2, vs, e2, q2⟩ := r.ob n _ e
  rw [l] at l2
  cases l2
  exact ⟨a, vs, rfl, l, e2, q2⟩
/-- what a sequence holds, read -/
theorem RH.seq (r : RH K loc H h) {d : D} {ds : List D} {v : V} (e : seqOf h d = some ds) (q : RD K loc H d v) : ∃ a vs, v = .ref a ∧ RDs K loc H ds vs ∧ ((SqT K H a vs ∧ d = .tup ds) ∨ SqL K H a vs ∧ ∃ n, d = .ref n) := by
  cases d with
  | tup xs =>
    cases e
    rw [RD] at q
    obtain ⟨a, vs, e, s, q⟩ := q
    exact ⟨a, vs, e, q, .inl ⟨s, rfl⟩⟩
  | ref n =>
    simp only [seqOf] at e
    rw [RD] at q
    obtain ⟨a, rfl, l⟩ := q
    cases hn : h[n]? with
    | none => rw [hn] at e; cases e
    | some o =>
      rw [hn] at e
      obtain ⟨b, l2, q2⟩ := r.ob n _ hn
      rw [l] at l2
      cases l2
      cases o with
      | lst xs =>
        cases e
        obtain ⟨vs, e2, q3⟩ := q2
        exact ⟨a, vs, rfl, q3, .inr ⟨SqL.of e2, n, rfl⟩⟩
      | frz xs =>
        cases e
        obtain ⟨vs, e2, q3⟩ := q2
        exact ⟨a, vs, rfl, q3, .inr ⟨e2.sq, n, rfl⟩⟩
      | dic kvs => cases e
  | _ => cases e
end

/-! ### slots -/
def RS (K : PySem.W.Frag) (loc : List Addr) (H : Hp) (σ : Sg) (s : L2.St) : Prop := s.length = σ.length ∧ ∀ (i : Nat) (d : D), σ[i]? = some (some d) → ∃ v, s[i]? = some (some v) ∧ RD K loc H d v
section
variable {K : PySem.W.Frag} {loc loc' : List Addr} {H H' : Hp} {σ : Sg} {s : L2.St}
theorem RS.mono (x : Xt K loc H loc' H') (r : RS K loc H σ s) : RS K loc' H' σ s := ⟨r.1, fun i d e => by
  obtain ⟨v, e2, q⟩ := r.2 i d e
  exact ⟨v, e2, q.mono x⟩⟩
theorem RS.set (r : RS K loc H σ s) (i : Nat) {d : D} {v : V} (q : RD K loc H d v) : RS K loc H (σ.set i (some d)) (s.set i (some v)) := by
  refine ⟨by simp [r.1], fun j e a => ?_⟩
  have hl := r.1
  rw [List.getElem?_set] at a ⊢
  split at a
  · rename_i hij
    rw [if_pos hij]
    split at a
    · rename_i h2
      rw [if_pos (by omega)]
      cases a
      exact ⟨v, rfl, q⟩
    · cases a
  · rename_i hij
    rw [if_neg hij]
    exact r.2 j e a
theorem RS.wipe (r : RS K loc H σ s) : ∀ vs : List Nat, RS K loc H (wipes σ vs) (L2.wipe s vs)
  | [] => r
  | v :: vs => by
    have q := r.wipe vs
    unfold wipes L2.wipe
    have hl := q.1
    refine ⟨by simp [hl], fun j e a => ?_⟩
    rw [List.getElem?_set] at a ⊢
    split at a
    · split at a <;> cases a
    · rename_i hij
      rw [if_neg hij]
      exact q.2 j e a
end

/-! ### readings lifted -/
section
variable (K : PySem.W.Frag)
def Kx (loc : List Addr) (H : Hp) (Q' : Kd) (Q : VK) : Prop := ∀ d h' v H' loc', Q' d h' → Xt K loc H loc' H' → RH K loc' H' h' → RD K loc' H' d v → Q v H'
def KxB (loc : List Addr) (H : Hp) (Q' : Bool → Hh → Prop) (Q : Bool → Hp → Prop) : Prop := ∀ b h' H' loc', Q' b h' → Xt K loc H loc' H' → RH K loc' H' h' → Q b H'
def KxL (loc : List Addr) (H : Hp) (Q' : List D → Hh → Prop) (Q : List V → Hp → Prop) : Prop := ∀ ds h' vs H' loc', Q' ds h' → Xt K loc H loc' H' → RH K loc' H' h' → RDs K loc' H' ds vs → Q vs H'
def KxS (loc : List Addr) (H : Hp) (Q' : Sg → Hh → Prop) (Q : L2.St → Hp → Prop) : Prop := ∀ σ' h' s' H' loc', Q' σ' h' → Xt K loc H loc' H' → RH K loc' H' h' → RS K loc' H' σ' s' → Q s' H'
def lfE (t : Sg → Hh → Kd → Prop) : TE := fun s H Q => ∃ loc σ h Q', RS K loc H σ s ∧ RH K loc H h ∧ t σ h Q' ∧ Kx K loc H Q' Q
def lfT (t : Sg → Hh → (Bool → Hh → Prop) → Prop) : TT := fun s H Q => ∃ loc σ h Q', RS K loc H σ s ∧ RH K loc H h ∧ t σ h Q' ∧ KxB K loc H Q' Q
def lfA (t : Sg → Hh → (List D → Hh → Prop) → Prop) : TA := fun s H Q => ∃ loc σ h Q', RS K loc H σ s ∧ RH K loc H h ∧ t σ h Q' ∧ KxL K loc H Q' Q
def lfG (t : D → Sg → Hh → (Sg → Hh → Prop) → Prop) : TG := fun v s H Q => ∃ loc d σ h Q', RD K loc H d v ∧ RS K loc H σ s ∧ RH K loc H h ∧ t d σ h Q' ∧ KxS K loc H Q' Q
/-- an iterator that walks what stands -/
structure SnapJ (J : It) (xs : List D) (loc : List Addr) (H : Hp) : Prop where
  stop : ∀ (i : Nat) (loc' : List Addr) (H' : Hp), xs[i]? = none → Xt K loc H loc' H' → J.stop i H'
  go : ∀ (i : Nat) (d : D) (loc' : List Addr) (H' : Hp), xs[i]? = some d → Xt K loc H loc' H' → J.go i H'
  yld : ∀ (i : Nat) (d : D) (loc' : List Addr) (H' : Hp) (x : V) (H2 : Hp) (h : Hh), xs[i]? = some d → Xt K loc H loc' H' → RH K loc' H' h → J.yld i H' x H2 → ∃ loc2, Xt K loc' H' loc2 H2 ∧ RH K loc2 H2 h ∧ RD K loc2 H2 d x
def WkJ (J : It) (loc : List Addr) (H : Hp) : MW → Prop
  | .snap xs => SnapJ K J xs loc H
  | .live n => ∃ a, J = Itl K a ∧ loc[n]? = some a
def KxI (loc : List Addr) (H : Hp) (Q' : MW → Hh → Prop) (R : It → Hp → Prop) : Prop := ∀ w h' J H' loc', Q' w h' → Xt K loc H loc' H' → RH K loc' H' h' → WkJ K J loc' H' w → R J H'
def lfI (t : Sg → Hh → (MW → Hh → Prop) → Prop) : TI := fun s H R => ∃ loc σ h Q', RS K loc H σ s ∧ RH K loc H h ∧ t σ h Q' ∧ KxI K loc H Q' R
structure KxR (loc : List Addr) (H : Hp) (R : Es) (E : Ends) : Prop where
  nx : KxS K loc H R.nx E.nx
  rt : Kx K loc H R.rt E.rt
  bk : KxS K loc H R.bk E.bk
  ct : KxS K loc H R.ct E.ct
def lfS (t : Es → Sg → Hh → Prop) : TS := fun E s H => ∃ loc σ h R, RS K loc H σ s ∧ RH K loc H h ∧ t R σ h ∧ KxR K loc H R E
/-- a def's promise -/
def lfP (C : List D → Hh → Kd → Ex → Prop) : Sp := fun vs H Q _ => ∃ loc ds h Q', RDs K loc H ds vs ∧ RH K loc H h ∧ C ds h Q' (fun _ _ _ => False) ∧ Kx K loc H Q' Q
end
section
variable {K : PySem.W.Frag} {loc loc' : List Addr} {H H' : Hp} {Q' : Kd} {Q : VK}
theorem Kx.mono (k : Kx K loc H Q' Q) (x : Xt K loc H loc' H') : Kx K loc' H' Q' Q := fun d h' v H2 loc2 q y => k d h' v H2 loc2 q (x.trans y)
theorem KxB.mono {Q' : Bool → Hh → Prop} {Q : Bool → Hp → Prop} (k : KxB K loc H Q' Q) (x : Xt K loc H loc' H') : KxB K loc' H' Q' Q := fun d h' H2 loc2 q y => k d h' H2 loc2 q (x.trans y)
theorem KxL.mono {Q' : List D → Hh → Prop} {Q : List V → Hp → Prop} (k : KxL K loc H Q' Q) (x : Xt K loc H loc' H') : KxL K loc' H' Q' Q := fun d h' v H2 loc2 q y => k d h' v H2 loc2 q (x.trans y)
theorem KxS.mono {Q' : Sg → Hh → Prop} {Q : L2.St → Hp → Prop} (k : KxS K loc H Q' Q) (x : Xt K loc H loc' H') : KxS K loc' H' Q' Q := fun d h' v H2 loc2 q y => k d h' v H2 loc2 q (x.trans y)
theorem KxR.mono {R : Es} {E : Ends} (k : KxR K loc H R E) (x : Xt K loc H loc' H') : KxR K loc' H' R E := ⟨k.nx.mono x, k.rt.mono x, k.bk.mono x, k.ct.mono x⟩
end
end Mi

set_option Elab.async false
set_option linter.all false
set_option maxRecDepth 100000
set_option maxHeartbeats 1000000
/-! Mi: its operations are the layer's. -/
namespace Mi
open PySem PySem.Spec PyProof.Rows L2

section
variable {K : PySem.W.Frag} {loc : List Addr} {H : Hp} {v : V}
theorem RD.non_ (r : RD K loc H .non v) : v = .non := by rw [RD] at r; exact r
theorem RD.bl_ {b : Bool} (r : RD K loc H (.bl b) v) : v = .bl b := by rw [RD] at r; exact r
theorem RD.int_ {i : Int} (r : RD K loc H (.int i) v) : v = .int i := by rw [RD] at r; exact r
theorem RD.str_ {x : Str} (r : RD K loc H (.str x) v) : v = .str x := by rw [RD] at r; exact r
theorem RD.tup_ {ds : List D} (r : RD K loc H (.tup ds) v) : ∃ a vs, v = .ref a ∧ SqT K H a vs ∧ RDs K loc H ds vs := by rw [RD] at r; exact r
theorem RD.ref_ {n : Nat} (r : RD K loc H (.ref n) v) : ∃ a, v = .ref a ∧ loc[n]? = some a := by rw [RD] at r; exact r
theorem rd_non : RD K loc H .non .non := by rw [RD]
theorem rd_bl {b : Bool} : RD K loc H (.bl b) (.bl b) := by rw [RD]
theorem rd_int {i : Int} : RD K loc H (.int i) (.int i) := by rw [RD]
theorem rd_str {x : Str} : RD K loc H (.str x) (.str x) := by rw [RD]
theorem rd_tup {ds : List D} {a : Addr} {vs : List V} (s : SqT K H a vs) (r : RDs K loc H ds vs) : RD K loc H (.tup ds) (.ref a) := by rw [RD]; exact ⟨a, vs, rfl, s, r⟩
theorem rd_ref {n : Nat} {a : Addr} (l : loc[n]? = some a) : RD K loc H (.ref n) (.ref a) := by rw [RD]; exact ⟨a, rfl, l⟩
end
theorem lenOk_i {n : Nat} (h : lenOk n = true) : n ≤ sizeLine := of_decide_eq_true h

/-! ### two-place operations -/
def lf2 (K : PySem.W.Frag) (f : D → D → Hh → Kd → Prop) : R2 := fun x y H Q => ∃ loc h dx dy Q', RH K loc H h ∧ RD K loc H dx x ∧ RD K loc H dy y ∧ f dx dy h Q' ∧ Kx K loc H Q' Q
def lf1 (K : PySem.W.Frag) (f : D → Hh → Kd → Prop) : V → Hp → VK → Prop := fun x H Q => ∃ loc h dx Q', RH K loc H h ∧ RD K loc H dx x ∧ f dx h Q' ∧ Kx K loc H Q' Q
def lfC (K : PySem.W.Frag) (f : List D → Hh → Kd → Prop) : List V → Hp → VK → Prop := fun xs H Q => ∃ loc h ds Q', RH K loc H h ∧ RDs K loc H ds xs ∧ f ds h Q' ∧ Kx K loc H Q' Q
def lfM (K : PySem.W.Frag) (f : D → List D → Hh → Kd → Prop) : V → List V → Hp → VK → Prop := fun x xs H Q => ∃ loc h dx ds Q', RH K loc H h ∧ RD K loc H dx x ∧ RDs K loc H ds xs ∧ f dx ds h Q' ∧ Kx K loc H Q' Q
section
variable {K : PySem.W.Frag} {loc : List Addr} {H : Hp} {h : Hh} {Q' : Kd} {Q : VK}
/-- what follows, at the same heap -/
theorem Kx.here (k : Kx K loc H Q' Q) (r : RH K loc H h) {d : D} {v : V} (q : Q' d h) (rd : RD K loc H d v) : Q v H := k d h v H loc q Xt.refl r rd
/-- .. at a new list -/
theorem Kx.new (k : Kx K loc H Q' Q) (r : RH K loc H h) {ds : List D} {vs : List V} (q : new (.lst ds) h Q') (rd : RDs K loc H ds vs) : ∀ p, H p = none → Q (.ref p) (upd H p (.lst vs)) := fun p hp =>
  k _ _ _ _ (loc ++ [p]) (new_e q) (Xt.new hp) (r.new hp rd) (rd_ref (by rw [← r.len]; simp))
/-- .. at a new tuple -/
theorem Kx.tup (k : Kx K loc H Q' Q) (r : RH K loc H h) {ds : List D} {vs : List V} (q : Q' (.tup ds) h) (rd : RDs K loc H ds vs) : ∀ p, H p = none → Q (.ref p) (upd H p (.tup vs)) := fun p hp =>
  k _ _ _ _ loc q (Xt.hid (.inl hp)) (r.hid hp) (rd_tup (SqT.of upd_same) (rd.mono (Xt.hid (.inl hp))))
/-- .. behind a list's change -/
theorem Kx.set (k : Kx K loc H Q' Q) (r : RH K loc H h) {n : Nat} {a : Addr} {old ds : List D} {vs : List V} {d : D} {v : V} (e : h[n]? = some (.lst old)) (l : loc[n]? = some a) (q : Q' d (h.set n (.lst ds))) (rd : RDs K loc H ds vs) (rv : RD K loc H d v) : Q v (upd H a (.lst vs)) :=
  k _ _ _ _ loc q (Xt.hid (.inr (r.mutH e rfl l))) (r.set e l rd) (rv.mono (Xt.hid (.inr (r.mutH e rfl l))))
end
def bopOf : BOp → Operator
  | .add => .Add | .sub => .Sub | .mul => .Mult | .fdiv => .FloorDiv | .mod => .Mod | .pow => .Pow | .shl => .LShift | .band => .BitAnd
def copOf : COp → CmpOp
  | .eq => .Eq | .ne => .NotEq | .lt => .Lt | .le => .LtE | .gt => .Gt | .ge => .GtE | .is => .Is | .isnot => .IsNot | .isin => .In | .notin => .NotIn
section
variable {X : Cx}
theorem mulOk_i {i j : Int} (h : mulOk i j = true) : CMul i j ∨ CMulW i j := by
  unfold mulOk at h
  rw [Bool.or_eq_true, Bool.or_eq_true, Bool.and_eq_true] at h
  rcases h with h | h | ⟨h1, h2⟩
  · have := of_decide_eq_true h
    exact .inl (.inl (by omega))
  · have := of_decide_eq_true h
    exact .inl (.inr (by omega))
  · exact .inr (wide_mul (of_decide_eq_true h1) (of_decide_eq_true h2) (by decide) (by decide) (by decide))
theorem b3 {a b c : Bool} (h : (a && b && c) = true) : a = true ∧ b = true ∧ c = true := by
  rw [Bool.and_eq_true, Bool.and_eq_true] at h
  exact ⟨h.1.1, h.1.2, h.2⟩
theorem op_bin (op : BOp) : OpR X (binaryOp (bopOf op)) (lf2 X.K (opBin op)) := by
  intro pins s σ H x y v u Q I rx ry hq
  obtain ⟨loc, h, dx, dy, Q', rh, r1, r2, w, k⟩ := hq
  cases op with
  | add =>
    cases dx <;> cases dy <;> try exact w.elim
    · cases r1.int_
      cases r2.int_
      exact op_add pins s σ H _ _ v u Q I rx ry ⟨_, _, rfl, rfl, k.here rh w rd_int⟩
    · cases r1.str_
      cases r2.str_
      obtain ⟨c, w⟩ := chk_e w
      exact op_add_str pins s σ H _ _ v u Q I rx ry ⟨_, _, rfl, rfl, lenOk_i c, k.here rh w rd_str⟩
    · rename_i n m
      obtain ⟨xs, hn, w⟩ := rdL_e (show rdL h n _ from w)
      obtain ⟨ys, hm, w⟩ := rdL_e (show rdL h m _ from w)
      obtain ⟨c, w⟩ := chk_e w
      obtain ⟨a, vs, rfl, la, ha, q1⟩ := rh.lst hn r1
      obtain ⟨b, ws, rfl, lb, hb, q2⟩ := rh.lst hm r2
      exact op_cat pins s σ H _ _ v u Q I rx ry ⟨a, b, vs, ws, rfl, rfl, ha, hb, by rw [q1.length, q2.length]; exact lenOk_i c, k.new rh w (q1.append q2)⟩
  | sub =>
    cases dx <;> cases dy <;> try exact w.elim
    cases r1.int_
    cases r2.int_
    exact op_sub pins s σ H _ _ v u Q I rx ry ⟨_, _, rfl, rfl, k.here rh w rd_int⟩
  | mul =>
    cases dx <;> cases dy <;> try exact w.elim
    · cases r1.int_
      cases r2.int_
      obtain ⟨c, w⟩ := chk_e w
      rcases mulOk_i c with c | c
      · exact op_mul pins s σ H _ _ v u Q I rx ry ⟨_, _, rfl, rfl, c, k.here rh w rd_int⟩
      · exact op_mulW pins s σ H _ _ v u Q I rx ry ⟨_, _, rfl, rfl, c, k.here rh w rd_int⟩
    · rename_i n i
      obtain ⟨xs, hn, w⟩ := rdL_e (show rdL h n _ from w)
      obtain ⟨c, w⟩ := chk_e w
      obtain ⟨c1, c2⟩ := Bool.and_eq_true_iff.mp c
      have c1' := of_decide_eq_true c1
      obtain ⟨a, vs, rfl, la, ha, q1⟩ := rh.lst hn r1
      cases r2.int_
      exact op_rep pins s σ H _ _ v u Q I rx ry ⟨a, i, vs, rfl, rfl, ha, by omega, by omega, by rw [q1.length]; exact lenOk_i c2, k.new rh w (q1.rep _)⟩
  | fdiv =>
    cases dx <;> cases dy <;> try exact w.elim
    cases r1.int_
    cases r2.int_
    obtain ⟨c, w⟩ := chk_e w
    obtain ⟨c1, c2⟩ := Bool.and_eq_true_iff.mp c
    exact op_fdivW pins s σ H _ _ v u Q I rx ry ⟨_, _, rfl, rfl, wide_div (of_decide_eq_true c1) (of_decide_eq_true c2) (by decide) (by decide), k.here rh w rd_int⟩
  | mod =>
    cases dx <;> cases dy <;> try exact w.elim
    cases r1.int_
    cases r2.int_
    obtain ⟨c, w⟩ := chk_e w
    exact op_mod pins s σ H _ _ v u Q I rx ry ⟨_, _, rfl, rfl, of_decide_eq_true c, k.here rh w rd_int⟩
  | pow =>
    cases dx <;> cases dy <;> try exact w.elim
    cases r1.int_
    cases r2.int_
    obtain ⟨c, w⟩ := chk_e w
    obtain ⟨c1, c2, c3⟩ := b3 c
    exact op_pow pins s σ H _ _ v u Q I rx ry ⟨_, _, rfl, rfl, ⟨of_decide_eq_true c1, of_decide_eq_true c2, of_decide_eq_true c3⟩, k.here rh w rd_int⟩
  | shl =>
    cases dx <;> cases dy <;> try exact w.elim
    cases r1.int_
    cases r2.int_
    obtain ⟨c, w⟩ := chk_e w
    obtain ⟨c1, c2, c3⟩ := b3 c
    exact op_shl pins s σ H _ _ v u Q I rx ry ⟨_, _, rfl, rfl, ⟨of_decide_eq_true c1, of_decide_eq_true c2, of_decide_eq_true c3⟩, k.here rh w rd_int⟩
  | band =>
    cases dx <;> cases dy <;> try exact w.elim
    cases r1.int_
    cases r2.int_
    exact op_and pins s σ H _ _ v u Q I rx ry ⟨_, _, rfl, rfl, k.here rh w rd_int⟩
theorem op_aug (op : BOp) : OpR X (inplaceOp (bopOf op)) (lf2 X.K (opAug op)) := by
  intro pins s σ H x y v u Q I rx ry hq
  obtain ⟨loc, h, dx, dy, Q', rh, r1, r2, w, k⟩ := hq
  cases op with
  | add =>
    cases dx <;> cases dy <;> try exact w.elim
    · cases r1.int_
      cases r2.int_
      exact iop_add pins s σ H _ _ v u Q I rx ry ⟨_, _, rfl, rfl, k.here rh w rd_int⟩
    · cases r1.str_
      cases r2.str_
      obtain ⟨c, w⟩ := chk_e w
      exact iop_add_str pins s σ H _ _ v u Q I rx ry ⟨_, _, rfl, rfl, lenOk_i c, k.here rh w rd_str⟩
  | sub =>
    cases dx <;> cases dy <;> try exact w.elim
    cases r1.int_
    cases r2.int_
    exact iop_sub pins s σ H _ _ v u Q I rx ry ⟨_, _, rfl, rfl, k.here rh w rd_int⟩
  | mul =>
    cases dx <;> cases dy <;> try exact w.elim
    cases r1.int_
    cases r2.int_
    obtain ⟨c, w⟩ := chk_e w
    rename_i i j _
    have c' : IntMulOk i j := by
      rcases mulOk_i c with c | c
      · exact c.ok
      · exact c.ok
    obtain ⟨t, rfl⟩ := rx
    obtain ⟨t', rfl⟩ := ry
    exact imul_int ⟨.int _, H, I.tok _, ⟨_, rfl⟩, k.here rh w rd_int⟩ c'
  | fdiv =>
    cases dx <;> cases dy <;> try exact w.elim
    cases r1.int_
    cases r2.int_
    obtain ⟨c, w⟩ := chk_e w
    obtain ⟨c1, c2⟩ := Bool.and_eq_true_iff.mp c
    have c1' := of_decide_eq_true c1
    have cw := (wide_div c1' (of_decide_eq_true c2) (by decide) (by decide) : CDivW 0 _)
    obtain ⟨t, rfl⟩ := rx
    obtain ⟨t', rfl⟩ := ry
    exact ifloordiv_int (by omega) (by rw [Int.fdiv_eq_ediv_of_nonneg _ (by omega)]; exact ⟨.int _, H, I.tok _, ⟨_, rfl⟩, k.here rh w rd_int⟩) (.inl (PyProof.noPylong_of_log2 cw.2))
  | mod =>
    cases dx <;> cases dy <;> try exact w.elim
    cases r1.int_
    cases r2.int_
    obtain ⟨c, w⟩ := chk_e w
    exact iop_mod pins s σ H _ _ v u Q I rx ry ⟨_, _, rfl, rfl, of_decide_eq_true c, k.here rh w rd_int⟩
  | _ => cases dx <;> exact w.elim
/-! ### comparisons -/
theorem RD.isN {loc : List Addr} {H : Hp} {K : PySem.W.Frag} {d : D} {v : V} (r : RD K loc H d v) : decide (v = .non) = (match d with | .non => true | _ => false) := by
  cases d with
  | non => cases r.non_; rfl
  | bl b => cases r.bl_; rfl
  | int i => cases r.int_; rfl
  | str x => cases r.str_; rfl
  | tup ds => obtain ⟨a, vs, rfl, _⟩ := r.tup_; rfl
  | ref n => obtain ⟨a, rfl, _⟩ := r.ref_; rfl
theorem eqV_fl {K : PySem.W.Frag} {loc : List Addr} {H : Hp} {d e : D} {v w : V} (r1 : RD K loc H d v) (r2 : RD K loc H e w) (f1 : isFl d = true) (f2 : isFl e = true) : eqV v w = eqD d e := by
  cases d <;> cases e <;> try cases f1 <;> try cases f2
  all_goals first
    | (cases r1.non_; cases r2.non_; simp [eqV, eqD])
    | (cases r1.non_; cases r2.bl_; simp [eqV, eqD])
    | (cases r1.non_; cases r2.int_; simp [eqV, eqD])
    | (cases r1.non_; cases r2.str_; simp [eqV, eqD])
    | (cases r1.bl_; cases r2.non_; simp [eqV, eqD])
    | (cases r1.bl_; cases r2.bl_; simp [eqV, eqD])
    | (cases r1.bl_; cases r2.int_; simp [eqV, eqD])
    | (cases r1.bl_; cases r2.str_; simp [eqV, eqD])
    | (cases r1.int_; cases r2.non_; simp [eqV, eqD])
    | (cases r1.int_; cases r2.bl_; simp [eqV, eqD])
    | (cases r1.int_; cases r2.int_; simp [eqV, eqD])
    | (cases r1.int_; cases r2.str_; simp [eqV, eqD])
    | (cases r1.str_; cases r2.non_; simp [eqV, eqD])
    | (cases r1.str_; cases r2.bl_; simp [eqV, eqD])
    | (cases r1.str_; cases r2.int_; simp [eqV, eqD])
    | (cases r1.str_; cases r2.str_; simp only [eqV, eqD, strEq_dec]; rfl)
theorem fl_all {K : PySem.W.Frag} {loc : List Addr} {H : Hp} : ∀ {ds : List D} {vs : List V}, RDs K loc H ds vs → ds.all isFl = true → vs.all flatV = true
  | [], vs, r, _ => by rw [RDs] at r; rw [r]; rfl
  | d :: ds, vs, r, h => by
    rw [RDs] at r
    obtain ⟨v, t, rfl, r1, r2⟩ := r
    rw [List.all_cons, Bool.and_eq_true] at h
    rw [List.all_cons, fl_all r2 h.2, Bool.and_true]
    cases d <;> try cases h.1
    · cases r1.non_; rfl
    · cases r1.bl_; rfl
    · cases r1.int_; rfl
    · cases r1.str_; rfl
theorem fl_one {K : PySem.W.Frag} {loc : List Addr} {H : Hp} {d : D} {v : V} (r1 : RD K loc H d v) (h : isFl d = true) : flatV v = true := by
  cases d <;> try cases h
  · cases r1.non_; rfl
  · cases r1.bl_; rfl
  · cases r1.int_; rfl
  · cases r1.str_; rfl
theorem inV_fl {K : PySem.W.Frag} {loc : List Addr} {H : Hp} {d : D} {v : V} (r : RD K loc H d v) (f : isFl d = true) : ∀ {ds : List D} {vs : List V}, RDs K loc H ds vs → ds.all isFl = true → inV v vs = inFlat d ds
  | [], vs, q, _ => by rw [RDs] at q; rw [q]; rfl
  | e :: ds, vs, q, h => by
    rw [RDs] at q
    obtain ⟨w, t, rfl, q1, q2⟩ := q
    rw [List.all_cons, Bool.and_eq_true] at h
    have ih := inV_fl r f q2 h.2
    unfold inV inFlat at ih ⊢
    rw [List.any_cons, List.any_cons, ih, eqV_fl q1 r h.1 f]
/-- == of two values, by cases -/
theorem opEq_ok {K : PySem.W.Frag} {loc : List Addr} {H : Hp} {d e : D} {v w : V} {R : Bool → Prop} (r1 : RD K loc H d v) (r2 : RD K loc H e w) (h : opEq d e R) : scal v w = true ∧ R (decide (v = w)) := by
  cases d <;> cases e <;> try exact h.elim
  · cases r1.non_; cases r2.non_; exact ⟨rfl, h⟩
  · cases r1.non_; cases r2.bl_; exact ⟨rfl, h⟩
  · cases r1.non_; cases r2.int_; exact ⟨rfl, h⟩
  · cases r1.non_; cases r2.str_; exact ⟨rfl, h⟩
  · cases r1.bl_; cases r2.non_; exact ⟨rfl, h⟩
  · cases r1.bl_; cases r2.bl_; exact ⟨rfl, by rw [dec_bl]; exact h⟩
  · cases r1.bl_; cases r2.str_; exact ⟨rfl, h⟩
  · cases r1.int_; cases r2.non_; exact ⟨rfl, h⟩
  · cases r1.int_; cases r2.int_; exact ⟨rfl, by rw [dec_int]; exact h⟩
  · cases r1.int_; cases r2.str_; exact ⟨rfl, h⟩
  · cases r1.str_; cases r2.non_; exact ⟨rfl, h⟩
  · cases r1.str_; cases r2.bl_; exact ⟨rfl, h⟩
  · cases r1.str_; cases r2.int_; exact ⟨rfl, h⟩
  · cases r1.str_; cases r2.str_; exact ⟨rfl, by rw [dec_str, show ∀ a b : Str, (a == b) = strEq a b from fun a b => (strEq_dec a b).symm]; exact h⟩
theorem op_cmp (op : COp) : OpR X (compareOp (copOf op)) (lf2 X.K fun x y h Q => opCmp op x y h fun b => Q (.bl b) h) := by
  intro pins s σ H x y v u Q I rx ry hq
  obtain ⟨loc, h, dx, dy, Q', rh, r1, r2, w, k⟩ := hq
  cases op with
  | eq =>
    obtain ⟨c, w⟩ := opEq_ok (R := fun b => Q' (.bl b) h) r1 r2 w
    exact op_eq pins s σ H _ _ v u Q I rx ry ⟨c, k.here rh w rd_bl⟩
  | ne =>
    obtain ⟨c, w⟩ := opEq_ok (R := fun b => Q' (.bl (!b)) h) r1 r2 w
    exact op_ne pins s σ H _ _ v u Q I rx ry ⟨c, k.here rh w rd_bl⟩
  | lt =>
    cases dx <;> cases dy <;> try exact w.elim
    cases r1.int_; cases r2.int_
    exact op_lt pins s σ H _ _ v u Q I rx ry ⟨_, _, rfl, rfl, k.here rh w rd_bl⟩
  | le =>
    cases dx <;> cases dy <;> try exact w.elim
    cases r1.int_; cases r2.int_
    exact op_le pins s σ H _ _ v u Q I rx ry ⟨_, _, rfl, rfl, k.here rh w rd_bl⟩
  | gt =>
    cases dx <;> cases dy <;> try exact w.elim
    cases r1.int_; cases r2.int_
    exact op_gt pins s σ H _ _ v u Q I rx ry ⟨_, _, rfl, rfl, k.here rh w rd_bl⟩
  | ge =>
    cases dx <;> cases dy <;> try exact w.elim
    cases r1.int_; cases r2.int_
    exact op_ge pins s σ H _ _ v u Q I rx ry ⟨_, _, rfl, rfl, k.here rh w rd_bl⟩
  | is =>
    cases dy <;> try exact w.elim
    cases r2.non_
    refine op_isN pins s σ H _ _ v u Q I rx ry ⟨rfl, ?_⟩
    rw [r1.isN]
    cases dx <;> exact k.here rh w rd_bl
  | isnot =>
    cases dy <;> try exact w.elim
    cases r2.non_
    refine op_notN pins s σ H _ _ v u Q I rx ry ⟨rfl, ?_⟩
    rw [r1.isN]
    cases dx <;> exact k.here rh w rd_bl
  | isin =>
    obtain ⟨ds, e, w⟩ := sq_e (show sq h dy _ from w)
    obtain ⟨c, w⟩ := chk_e w
    obtain ⟨c1, c2⟩ := Bool.and_eq_true_iff.mp c
    obtain ⟨a, vs, rfl, q, sq⟩ := rh.seq e r2
    refine op_in_seq pins s σ H _ _ v u Q I rx ry ⟨a, vs, rfl, sq.elim (fun z => .inr z.1) (fun z => .inl z.1), fl_one r1 c1, fl_all q c2, ?_⟩
    rw [inV_fl r1 c1 q c2]
    exact k.here rh w rd_bl
  | notin =>
    obtain ⟨ds, e, w⟩ := sq_e (show sq h dy _ from w)
    obtain ⟨c, w⟩ := chk_e w
    obtain ⟨c1, c2⟩ := Bool.and_eq_true_iff.mp c
    obtain ⟨a, vs, rfl, q, sq⟩ := rh.seq e r2
    refine op_notIn_seq pins s σ H _ _ v u Q I rx ry ⟨a, vs, rfl, sq.elim (fun z => .inr z.1) (fun z => .inl z.1), fl_one r1 c1, fl_all q c2, ?_⟩
    rw [inV_fl r1 c1 q c2]
    exact k.here rh w rd_bl
/-! ### truth -/
theorem truth_ok {K : PySem.W.Frag} {loc : List Addr} {H : Hp} {h : Hh} {d : D} {v : V} {R : Bool → Prop} (rh : RH K loc H h) (r : RD K loc H d v) (w : truth d h R) : ∃ k, TruV K v H k ∧ R k := by
  cases d with
  | non => cases r.non_; exact ⟨_, rfl, w⟩
  | bl b => cases r.bl_; exact ⟨_, rfl, w⟩
  | int i => cases r.int_; exact ⟨_, rfl, w⟩
  | str x => exact w.elim
  | tup ds =>
    obtain ⟨a, vs, rfl, sq, q⟩ := r.tup_
    exact ⟨_, .inr (.inl ⟨vs, sq, rfl⟩), by rw [q.isEmpty]; exact w⟩
  | ref n =>
    obtain ⟨xs, hn, w⟩ := rdL_e (show rdL h n _ from w)
    obtain ⟨a, vs, rfl, la, ha, q⟩ := rh.lst hn r
    exact ⟨_, .inl ⟨vs, SqL.of ha, rfl⟩, by rw [q.isEmpty]; exact w⟩
/-! ### items, slices -/
theorem ixAt_eq (n : Nat) (i : Int) : ixAt n i = ixN n i := rfl
theorem op_ix : IxR X (lf2 X.K opIx) := by
  intro value slice pins s σ H x y v u Q I rx ry hq hsb
  obtain ⟨loc, h, dx, dy, Q', rh, r1, r2, w, k⟩ := hq
  cases dy <;> try exact w.elim
  cases r2.int_
  rename_i i
  obtain ⟨ds, e, w⟩ := sq_e (show sq h dx _ from w)
  obtain ⟨d, g, w⟩ := itm_e w
  obtain ⟨a, vs, rfl, q, sq⟩ := rh.seq e r1
  obtain ⟨z, hz, rz⟩ : ∃ z, atI vs i = some z ∧ RD X.K loc H d z := by
    unfold getAt at g
    unfold atI
    rw [q.length]
    rw [ixAt_eq] at g
    cases j : ixN ds.length i with
    | none => rw [j] at g; cases g
    | some jj =>
      rw [j] at g
      exact q.at_ g
  rcases sq with ⟨sq, _⟩ | ⟨sq, _⟩
  · exact ix_tup value slice pins s σ H _ _ v u Q I rx ry ⟨a, vs, i, z, rfl, rfl, sq, hz, k.here rh w rz⟩ hsb
  · exact ix_list value slice pins s σ H _ _ v u Q I rx ry ⟨a, vs, i, z, rfl, rfl, sq, hz, k.here rh w rz⟩ hsb
theorem RDs.cut {K : PySem.W.Frag} {loc : List Addr} {H : Hp} {ds : List D} {vs : List V} (q : RDs K loc H ds vs) (lo hi : Option Int) : RDs K loc H (cutD ds lo hi) (cutV vs lo hi) := by
  unfold cutD cutV
  rw [q.length]
  exact (q.drop _).take _
def lfSl (K : PySem.W.Frag) : V → Option Int → Option Int → Hp → VK → Prop := fun x lo hi H Q => ∃ loc h dx Q', RH K loc H h ∧ RD K loc H dx x ∧ opSl dx lo hi h Q' ∧ Kx K loc H Q' Q
theorem op_sl : SlR X (lfSl X.K) := by
  intro pins s σ H x v vl vu lo hi sl Q I rx hs pl pu hq
  obtain ⟨loc, h, dx, Q', rh, r1, w, k⟩ := hq
  unfold opSl at w
  cases dx <;> try exact w.elim
  · obtain ⟨c, w⟩ := chk_e w
    obtain ⟨a, vs, rfl, sq, q⟩ := r1.tup_
    refine sl_tup pins s σ H _ v vl vu lo hi sl Q I rx hs pl pu ⟨a, vs, rfl, sq, ?_, k.tup rh w (q.cut lo hi)⟩
    rw [q.length]
    rintro ⟨z1, z2⟩
    rw [decide_eq_true z1, decide_eq_true z2] at c
    cases c
  · rename_i n
    obtain ⟨ds, e, w⟩ := sq_e (show sq h (.ref n) _ from w)
    obtain ⟨a, vs, rfl, q, sq⟩ := rh.seq e r1
    rcases sq with ⟨_, z⟩ | ⟨sq, _⟩
    · cases z
    · exact sl_list pins s σ H _ v vl vu lo hi sl Q I rx hs pl pu ⟨a, vs, rfl, sq, k.new rh w (q.cut lo hi)⟩
end
end Mi

set_option Elab.async false
set_option linter.all false
set_option maxRecDepth 100000
set_option maxHeartbeats 1000000
/-! Mi: built-in calls, methods, stores. -/
namespace Mi
open PySem PySem.Spec PyProof.Rows L2

theorem ints_of {K : PySem.W.Frag} {loc : List Addr} {H : Hp} : ∀ {ds : List D} {vs : List V} {ns : List Int}, RDs K loc H ds vs → intsOf ds = some ns → vs = ns.map V.int
  | [], vs, ns, q, e => by
    cases e
    rw [RDs] at q
    exact q
  | d :: ds, vs, ns, q, e => by
    rw [RDs] at q
    obtain ⟨v, t, rfl, q1, q2⟩ := q
    cases d <;> try cases e
    simp only [intsOf] at e
    cases z : intsOf ds with
    | none => rw [z] at e; cases e
    | some ms =>
      rw [z] at e
      cases e
      cases q1.int_
      rw [ints_of q2 z]
      rfl
theorem maxI_mem : ∀ (m : Int) (ms : List Int), maxI m ms ∈ m :: ms
  | m, [] => List.mem_cons_self
  | m, x :: xs => by
    unfold maxI
    have h := maxI_mem (if x > m then x else m) xs
    by_cases c : x > m
    · rw [if_pos c] at h ⊢
      rcases List.mem_cons.mp h with e | e
      · rw [e]; simp
      · simp [e]
    · rw [if_neg c] at h ⊢
      rcases List.mem_cons.mp h with e | e
      · rw [e]; simp
      · simp [e]
theorem maxI_le : ∀ (m : Int) (ms : List Int), ∀ y ∈ m :: ms, y ≤ maxI m ms
  | m, [], y, h => by simp at h; subst h; exact Int.le_refl _
  | m, x :: xs, y, h => by
    unfold maxI
    have q := maxI_le (if x > m then x else m) xs
    have q0 := q _ List.mem_cons_self
    generalize maxI (if x > m then x else m) xs = M at q q0 ⊢
    rcases List.mem_cons.mp h with e | h
    · subst e; split at q0 <;> omega
    · rcases List.mem_cons.mp h with e | h
      · subst e; split at q0 <;> omega
      · exact q y (List.mem_cons_of_mem _ h)
theorem minI_mem : ∀ (m : Int) (ms : List Int), minI m ms ∈ m :: ms
  | m, [] => List.mem_cons_self
  | m, x :: xs => by
    unfold minI
    have h := minI_mem (if x < m then x else m) xs
    by_cases c : x < m
    · rw [if_pos c] at h ⊢
      rcases List.mem_cons.mp h with e | e
      · rw [e]; simp
      · simp [e]
    · rw [if_neg c] at h ⊢
      rcases List.mem_cons.mp h with e | e
      · rw [e]; simp
      · simp [e]
theorem minI_le : ∀ (m : Int) (ms : List Int), ∀ y ∈ m :: ms, minI m ms ≤ y
  | m, [], y, h => by simp at h; subst h; exact Int.le_refl _
  | m, x :: xs, y, h => by
    unfold minI
    have q := minI_le (if x < m then x else m) xs
    have q0 := q _ List.mem_cons_self
    generalize minI (if x < m then x else m) xs = M at q q0 ⊢
    rcases List.mem_cons.mp h with e | h
    · subst e; split at q0 <;> omega
    · rcases List.mem_cons.mp h with e | h
      · subst e; split at q0 <;> omega
      · exact q y (List.mem_cons_of_mem _ h)
def bltVal : Blt → Value
  | .len => .builtin "len" | .abs => .builtin "abs" | .max => .builtin "max" | .min => .builtin "min" | .sum => .builtin "sum"
  | .int => .type "int" | .tuple => .type "tuple" | .list => .type "list"
def bltStr : Blt → Str
  | .len => "len" | .abs => "abs" | .max => "max" | .min => "min" | .sum => "sum" | .int => "int" | .tuple => "tuple" | .list => "list"
theorem nuLt_int (a b : Int) : nuLt (.int a) (.int b) = some (decide (a < b)) := rfl
section
variable {X : Cx}
theorem call_blt (hc : X.calm = true) (f : Blt) : CallR X (bltVal f) (lfC X.K (opBlt f)) := by
  intro pins s σ H xs us Q I r hq
  obtain ⟨loc, h, ds, Q', rh, rd, w, k⟩ := hq
  cases ds with
  | nil => cases f <;> exact w.elim
  | cons d1 ds =>
  rw [RDs] at rd
  obtain ⟨v1, t1, rfl, q1, rd⟩ := rd
  cases ds with
  | nil =>
    rw [RDs] at rd
    subst rd
    cases f with
    | len =>
      cases d1 with
      | str x =>
        cases q1.str_
        obtain ⟨c, w⟩ := chk_e w
        exact call_len_str pins s σ H _ us Q I r ⟨x, rfl, lenOk_i c, k.here rh w rd_int⟩
      | tup xs =>
        obtain ⟨ys, e, w⟩ := sq_e (K := fun ys => Q' (.int ys.length) h) (show sq h (.tup xs) _ from w)
        obtain ⟨a, vs, rfl, q, sq⟩ := rh.seq e q1
        refine call_len_seq pins s σ H _ us Q I r ⟨a, vs, rfl, sq.elim (fun z => .inr z.1) (fun z => .inl z.1), ?_⟩
        rw [q.length]
        exact k.here rh w rd_int
      | ref n =>
        obtain ⟨ys, e, w⟩ := sq_e (K := fun ys => Q' (.int ys.length) h) (show sq h (.ref n) _ from w)
        obtain ⟨a, vs, rfl, q, sq⟩ := rh.seq e q1
        refine call_len_seq pins s σ H _ us Q I r ⟨a, vs, rfl, sq.elim (fun z => .inr z.1) (fun z => .inl z.1), ?_⟩
        rw [q.length]
        exact k.here rh w rd_int
      | _ => exact w.elim
    | int =>
      cases d1 <;> try exact w.elim
      · cases q1.bl_
        exact call_int1 pins s σ H _ us Q I r (.inr ⟨_, rfl, k.here rh w rd_int⟩)
      · cases q1.int_
        exact call_int1 pins s σ H _ us Q I r (.inl ⟨_, rfl, k.here rh w rd_int⟩)
    | abs =>
      cases d1 <;> try exact w.elim
      cases q1.int_
      exact call_abs pins s σ H _ us Q I r ⟨_, rfl, k.here rh w rd_int⟩
    | max =>
      cases d1 <;> try exact w.elim
      obtain ⟨ys, e, w⟩ := rdL_e (show rdL h _ _ from w)
      obtain ⟨ms, e2, w⟩ := iLst_e w
      obtain ⟨a, vs, rfl, la, ha, q⟩ := rh.lst e q1
      have ev := ints_of q e2
      subst ev
      cases ms with
      | nil => exact w.elim
      | cons m ms =>
        refine cr_max hc pins s σ H _ us Q I r ⟨a, m :: ms, rfl, SqL.of ha, by simp, fun z hz hl => ?_⟩
        have : z = maxI m ms := Int.le_antisymm (maxI_le m ms z hz) (hl _ (maxI_mem m ms))
        subst this
        exact k.here rh w rd_int
    | min =>
      cases d1 <;> try exact w.elim
      obtain ⟨ys, e, w⟩ := rdL_e (show rdL h _ _ from w)
      obtain ⟨ms, e2, w⟩ := iLst_e w
      obtain ⟨a, vs, rfl, la, ha, q⟩ := rh.lst e q1
      have ev := ints_of q e2
      subst ev
      cases ms with
      | nil => exact w.elim
      | cons m ms =>
        refine cr_min hc pins s σ H _ us Q I r ⟨a, m :: ms, rfl, SqL.of ha, by simp, fun z hz hl => ?_⟩
        have : z = minI m ms := Int.le_antisymm (hl _ (minI_mem m ms)) (minI_le m ms z hz)
        subst this
        exact k.here rh w rd_int
    | sum =>
      cases d1 <;> try exact w.elim
      obtain ⟨ys, e, w⟩ := rdL_e (show rdL h _ _ from w)
      obtain ⟨ms, e2, w⟩ := iLst_e w
      obtain ⟨a, vs, rfl, la, ha, q⟩ := rh.lst e q1
      have ev := ints_of q e2
      subst ev
      exact cr_sum hc pins s σ H _ us Q I r ⟨a, ms, rfl, SqL.of ha, k.here rh w rd_int⟩
    | tuple =>
      obtain ⟨ys, e, w⟩ := sq_e (show sq h d1 _ from w)
      obtain ⟨a, vs, rfl, q, sq⟩ := rh.seq e q1
      rcases sq with ⟨sq, rfl⟩ | ⟨sq, _⟩
      · exact call_tuple_of pins s σ H _ us Q I r ⟨a, vs, rfl, .inr ⟨sq, k.here rh w (rd_tup sq q)⟩⟩
      · exact call_tuple_of pins s σ H _ us Q I r ⟨a, vs, rfl, .inl ⟨sq, k.tup rh w q⟩⟩
    | list =>
      obtain ⟨ys, e, w⟩ := sq_e (show sq h d1 _ from w)
      obtain ⟨a, vs, rfl, q, sq⟩ := rh.seq e q1
      exact call_list_of pins s σ H _ us Q I r ⟨a, vs, rfl, sq.elim (fun z => .inr z.1) (fun z => .inl z.1), k.new rh w q⟩
  | cons d2 ds =>
    rw [RDs] at rd
    obtain ⟨v2, t2, rfl, q2, rd⟩ := rd
    cases ds with
    | nil =>
      rw [RDs] at rd
      subst rd
      cases f with
      | max =>
        cases d1 <;> cases d2 <;> try exact w.elim
        cases q1.int_
        cases q2.int_
        exact call_max2 hc pins s σ H _ us Q I r ⟨_, _, rfl, k.here rh w rd_int⟩
      | min =>
        cases d1 <;> cases d2 <;> try exact w.elim
        cases q1.int_
        cases q2.int_
        exact call_min2 hc pins s σ H _ us Q I r ⟨_, _, rfl, k.here rh w rd_int⟩
      | _ => cases d1 <;> exact w.elim
    | cons d3 ds =>
      rw [RDs] at rd
      obtain ⟨v3, t3, rfl, q3, rd⟩ := rd
      cases ds with
      | cons d4 ds => cases f <;> cases d1 <;> cases d2 <;> cases d3 <;> exact w.elim
      | nil =>
        rw [RDs] at rd
        subst rd
        cases f with
        | max =>
          cases d1 <;> cases d2 <;> cases d3 <;> try exact w.elim
          rename_i i j k3
          cases q1.int_
          cases q2.int_
          cases q3.int_
          refine call_max3Nu hc pins s σ H _ us Q I r ⟨_, _, _, .int (if k3 > (if j > i then j else i) then k3 else (if j > i then j else i)), rfl, ?_, k.here rh w rd_int⟩
          by_cases c1 : i < j <;> by_cases c2 : j < k3 <;> by_cases c3 : i < k3 <;> simp [nuMax3, nuMax2, nuLt_int, c1, c2, c3]
        | min =>
          cases d1 <;> cases d2 <;> cases d3 <;> try exact w.elim
          rename_i i j k3
          cases q1.int_
          cases q2.int_
          cases q3.int_
          refine call_min3Nu hc pins s σ H _ us Q I r ⟨_, _, _, .int (if k3 < (if j < i then j else i) then k3 else (if j < i then j else i)), rfl, ?_, k.here rh w rd_int⟩
          by_cases c1 : j < i <;> by_cases c2 : k3 < j <;> by_cases c3 : k3 < i <;> simp [nuMin3, nuMin2, nuLt_int, c1, c2, c3]
        | _ => cases d1 <;> cases d2 <;> cases d3 <;> exact w.elim
/-! ### isinstance -/
def tynStr : Tyn → String
  | .int => "int" | .bool => "bool" | .str => "str" | .tuple => "tuple" | .list => "list"
theorem tyx_of {K : PySem.W.Frag} {loc : List Addr} {H : Hp} {d : D} {v : V} {t : Tyn} (r : RD K loc H d v) (e : tyOf d = some t) : TyX K H v (.type (tynStr t)) := by
  cases d with
  | non => cases e
  | bl b => cases e; cases r.bl_; exact .base (.bl _)
  | int i => cases e; cases r.int_; exact .base (.int _)
  | str x => cases e; cases r.str_; exact .base (.str _)
  | tup ds =>
    cases e
    obtain ⟨a, vs, rfl, sq, q⟩ := r.tup_
    rcases sq with (sq | ⟨o, sq⟩) | ⟨o, its, n, sq, hc, _⟩
    · exact .base (.tup sq)
    · exact .fTuple sq
    · exact .kTuple sq hc
  | ref n => cases e
theorem kit_tyn {K : PySem.W.Frag} (t u : Tyn) : PySem.W.kitOne K (.type (tynStr t)) (.type (tynStr u)) = some (isTy t u) := by
  cases t <;> cases u <;> rfl
theorem call_isi1 (u : Tyn) : CallR X (.builtin "isinstance") (fun xs H Q => ∃ x, xs = [x, .ty (tynStr u)] ∧ lf1 X.K (fun d h Q => opIsi d [u] h Q) x H Q) := by
  intro pins s σ H xs us Q I r hq
  obtain ⟨x, rfl, loc, h, dx, Q', rh, rd, w, k⟩ := hq
  cases dx with
  | non =>
    cases rd.non_
    refine call_isi pins s σ H _ us Q I r ⟨.non, .ty (tynStr u), .type "NoneType", .type (tynStr u), false, rfl, .ty _, .base .non, ?_, k.here rh w rd_bl⟩
    cases u <;> rfl
  | ref n =>
    obtain ⟨xs, e, w⟩ := rdL_e (show rdL h n _ from w)
    obtain ⟨a, vs, rfl, la, ha, q⟩ := rh.lst e rd
    refine call_isi pins s σ H _ us Q I r ⟨_, .ty (tynStr u), _, .type (tynStr u), isTy .list u, rfl, .ty _, .base (.lst ha), kit_tyn .list u, ?_⟩
    have e2 : (List.any [u] fun u => isTy .list u) = isTy .list u := by simp
    rw [e2] at w
    exact k.here rh w rd_bl
  | _ =>
    simp only [opIsi] at w
    split at w
    · rename_i t e
      refine call_isi pins s σ H _ us Q I r ⟨x, .ty (tynStr u), _, .type (tynStr u), isTy t u, rfl, .ty _, tyx_of rd e, kit_tyn t u, ?_⟩
      have e2 : (List.any [u] fun u => isTy t u) = isTy t u := by simp
      rw [e2] at w
      exact k.here rh w rd_bl
    · exact w.elim
/-! ### methods -/
def mthId : Mth → String
  | .append => "list.append" | .pop => "list.pop" | .popAt => "list.pop" | .extend => "list.extend"
def mthStr : Mth → Str
  | .append => "append" | .pop => "pop" | .popAt => "pop" | .extend => "extend"
theorem ixAt_seq {n : Nat} {i : Int} {j : Nat} (h : ixAt n i = some j) : seqIndex? i n = some j := (ixN_seq h).1
section
open PySem PySem.AutoSeq1
set_option maxRecDepth 8000 in
theorem extend_tup (l : Addr) (items : Array Value) (n : Nat) (b : Addr) (items2 : Array Value) (n2 : Nat) (dd : Option Addr) (sl : Array (Option Value)) (hs0 : ¬(!items.isEmpty && Builtin.List.listTooLong (items.size + items2.size)) = true) (hs1 : items.size ≤ sizeLine) (hs2 : items.size + items2.size ≤ sizeLine + 1) :
    Meets (Builtin.«list.extend» ⟨[.ref l, .ref b], []⟩) (fun _ R s => s.heap.get? l = some { cls := .type "list", dict := none, data := .seq items n, slots := #[] } ∧ s.heap.get? b = some { cls := .type "tuple", dict := dd, data := .seq items2 n2, slots := sl } ∧ R (.ok (.ret Value.none)) { s with heap := s.heap.update l (Obj.mapSeq fun x => x ++ items2), toks := s.toks }) :=
  .of_wp fun prog w A R s h => by
    obtain ⟨hp, g, d, tk, os⟩ := s; obtain ⟨hl, hb, h⟩ := h; have f1 := AutoSeq1.idx_int; have f2 := AutoSeq1.sub_tuple_tuple; have f3 := AutoSeq1.sub_list_list; have f4 := AutoSeq1.sub_tuple_list; have f5 := AutoSeq1.sub_list_tuple;
    have hz' : (items ++ items2).size ≤ sizeLine + 1 := by rw [Array.size_append]; exact hs2
    wp_walk using (wpAny_updateSeq hl rfl (hz := hs1) (_hz' := hz')), wpAny_loadPart' hl, wpAny_loadPart' hb; exact ⟨_, rfl, h⟩
end
def rExtendT (K : PySem.W.Frag) : V → List V → Hp → VK → Prop := fun x vs H Q => ∃ l b xs zs, x = .ref l ∧ vs = [.ref b] ∧ H l = some (.lst xs) ∧ SqT K H b zs ∧ xs.length + zs.length ≤ sizeLine ∧ Q .non (upd H l (.lst (xs ++ zs)))
theorem mt_extendT : MtM X "list.extend" (rExtendT X.K) := by
  intro pins s σ H x vs v us Q I rx rv h
  obtain ⟨l, b, xs, zs, rfl, rfl, hH, hB, hz, q⟩ := h
  cases rx
  obtain ⟨u, rfl, ru⟩ := rv.one
  cases ru
  obtain ⟨z, its, n, r, hl, e⟩ := I.lstM hH
  obtain ⟨its2, r2, ⟨o2, e2, c2, n2, d2⟩, z2⟩ := I.tuple hB
  have hl2 := r2.length
  obtain ⟨oc, od, dt, sl⟩ := o2
  simp only at c2 d2
  subst c2 d2
  have hsz : its.toArray.size + its2.toArray.size ≤ sizeLine := by rw [List.size_toArray, List.size_toArray]; omega
  have hlong : ¬ (!its.toArray.isEmpty && Builtin.List.listTooLong (its.toArray.size + its2.toArray.size)) = true := by
    rw [notLongL hsz, Bool.and_false]
    exact Bool.false_ne_true
  refine call_meets F.slot_list_extend ⟨_, e, rfl⟩ F.entry_list_extend (F.args_list_extend_2 _ _)
    (extend_tup l its.toArray n b its2.toArray n2 od sl hlong (by rw [List.size_toArray]; omega) (by omega)) ⟨e, e2, ?_⟩
  refine ⟨.non, _, I.lset (its' := its ++ its2) hH e (by simp) (r.append r2) ?_, rfl, q⟩
  rw [List.length_append]
  omega
theorem getAt_e {xs : List D} {i : Int} {d : D} (g : getAt xs i = some d) : ∃ j, ixAt xs.length i = some j ∧ xs[j]? = some d ∧ (ixAt xs.length i).getD 0 = j := by
  unfold getAt at g
  cases j : ixAt xs.length i with
  | none => rw [j] at g; cases g
  | some jj =>
    rw [j] at g
    exact ⟨jj, rfl, g, rfl⟩
theorem getAt_last {xs : List D} {d : D} (g : getAt xs (-1) = some d) : xs[xs.length - 1]? = some d := by
  obtain ⟨j, hj, e, _⟩ := getAt_e g
  unfold ixAt at hj
  rw [if_neg (by decide)] at hj
  split at hj
  · cases hj
    have : (-1 + (xs.length : Int)).toNat = xs.length - 1 := by omega
    rw [this] at e
    exact e
  · cases hj
theorem meth_ok (m : Mth) : MtR X (mthId m) (lfM X.K (opMeth m)) := by
  intro pins s σ H x xs v us Q I rx rxs hq
  obtain ⟨loc, h, dx, ds, Q', rh, r1, rd, w, k⟩ := hq
  cases dx <;> try exact w.elim
  rename_i n
  obtain ⟨ys, e, w⟩ := rdL_e (show rdL h n _ from w)
  obtain ⟨a, vs, rfl, la, ha, q⟩ := rh.lst e r1
  cases m with
  | append =>
    match ds, rd, w with
    | [], _, w => exact w.elim
    | _ :: _ :: _, _, w => exact w.elim
    | [d], rd, w =>
      obtain ⟨c, w⟩ := chk_e w
      rw [RDs] at rd
      obtain ⟨v1, t1, rfl, q1, rd⟩ := rd
      rw [RDs] at rd
      subst rd
      exact mt_append pins s σ H _ _ v us Q I rx rxs ⟨a, vs, v1, rfl, rfl, ha, by rw [q.length]; exact of_decide_eq_true c, k.set rh e la (put_e w) (q.append (RDs.cons q1 RDs.nil)) rd_non⟩
  | pop =>
    match ds, rd, w with
    | _ :: _, _, w => exact w.elim
    | [], rd, w =>
      rw [RDs] at rd
      subst rd
      obtain ⟨d, e2, w⟩ := itm_e w
      obtain ⟨z, hz, rz⟩ := q.at_ (getAt_last e2)
      exact mt_pop pins s σ H _ _ v us Q I rx rxs ⟨a, vs, z, rfl, rfl, ha, by rw [q.length]; exact hz, k.set rh e la (put_e w) q.dropLast rz⟩
  | popAt =>
    match ds, rd, w with
    | [], _, w => exact w.elim
    | d :: _ :: _, _, w => cases d <;> exact w.elim
    | [.non], _, w => exact w.elim
    | [.bl _], _, w => exact w.elim
    | [.str _], _, w => exact w.elim
    | [.tup _], _, w => exact w.elim
    | [.ref _], _, w => exact w.elim
    | [.int i], rd, w =>
      rw [RDs] at rd
      obtain ⟨v1, t1, rfl, q1, rd⟩ := rd
      rw [RDs] at rd
      subst rd
      cases q1.int_
      obtain ⟨c, w⟩ := chk_e w
      have c' := of_decide_eq_true c
      obtain ⟨d, e2, w⟩ := itm_e w
      obtain ⟨j, e3, e4, e5⟩ := getAt_e e2
      rw [e5] at w
      obtain ⟨z, hz, rz⟩ := q.at_ e4
      exact mt_popAt pins s σ H _ _ v us Q I rx rxs ⟨a, vs, i, j, z, rfl, rfl, ha, by omega, by omega, by rw [q.length]; exact ixAt_seq e3, hz, k.set rh e la (put_e w) (q.eraseIdx j) rz⟩
  | extend =>
    match ds, rd, w with
    | [], _, w => exact w.elim
    | _ :: _ :: _, _, w => exact w.elim
    | [.non], _, w => exact w.elim
    | [.bl _], _, w => exact w.elim
    | [.int _], _, w => exact w.elim
    | [.str _], _, w => exact w.elim
    | [.tup zs], rd, w =>
      rw [RDs] at rd
      obtain ⟨v1, t1, rfl, q1, rd⟩ := rd
      rw [RDs] at rd
      subst rd
      obtain ⟨c, w⟩ := chk_e w
      obtain ⟨b, ws, rfl, sb, q2⟩ := q1.tup_
      exact mt_extendT pins s σ H _ _ v us Q I rx rxs ⟨a, b, vs, ws, rfl, rfl, ha, sb, by rw [q.length, q2.length]; exact lenOk_i c, k.set rh e la (put_e w) (q.append q2) rd_non⟩
    | [.ref m2], rd, w =>
      rw [RDs] at rd
      obtain ⟨v1, t1, rfl, q1, rd⟩ := rd
      rw [RDs] at rd
      subst rd
      obtain ⟨zs, e2, w⟩ := rdL_e (show rdL h m2 _ from w)
      obtain ⟨c, w⟩ := chk_e w
      obtain ⟨b, ws, rfl, lb, hb, q2⟩ := rh.lst e2 q1
      exact mt_extend pins s σ H _ _ v us Q I rx rxs ⟨a, b, vs, ws, rfl, rfl, ha, hb, by rw [q.length, q2.length]; exact lenOk_i c, k.set rh e la (put_e w) (q.append q2) rd_non⟩
/-! ### stores -/
def lfSet (K : PySem.W.Frag) : TSet := fun o i v H Q => ∃ loc h d1 d2 d3 Q', RH K loc H h ∧ RD K loc H d1 o ∧ RD K loc H d2 i ∧ RD K loc H d3 v ∧ opSet d1 d2 d3 h Q' ∧ ∀ h' H' , Q' h' → Xt K loc H loc H' → RH K loc H' h' → Q H'
theorem set_ok : PSet X (lfSet X.K) := by
  intro pins s σ H o i v ov iv u Q I ro ri rv hq
  obtain ⟨loc, h, d1, d2, d3, Q', rh, r1, r2, r3, w, k⟩ := hq
  cases d1 <;> cases d2 <;> try exact w.elim
  rename_i n j
  cases r2.int_
  obtain ⟨ys, e, w⟩ := rdL_e (show rdL h n _ from w)
  obtain ⟨a, vs, rfl, la, ha, q⟩ := rh.lst e r1
  obtain ⟨d, e2, w⟩ := itm_e w
  obtain ⟨jj, e3, e4, e5⟩ := getAt_e e2
  rw [e5] at w
  exact set_list pins s σ H _ _ _ ov iv u Q I ro ri rv ⟨a, vs, j, jj, rfl, rfl, ha, by rw [q.length]; exact e3, k _ _ (put_e w) (Xt.hid (.inr (rh.mutH e rfl la))) (rh.set e la (q.set jj r3))⟩
end
end Mi

set_option Elab.async false
set_option linter.all false
set_option maxRecDepth 100000
set_option maxHeartbeats 1000000
/-! Mi: loops, comprehensions; readings put together. -/
namespace Mi
open PySem PySem.Spec PyProof.Rows L2

section
variable {X : Cx} {e : Expr}
theorem pe_imp {t t' : TE} (h : PE X e t) (i : ∀ s H Q, t' s H Q → t s H Q) : PE X e t' := ⟨fun pins s σ H Q I w => h.run pins s σ H Q I (i _ _ _ w)⟩
theorem pt_imp {t t' : TT} (h : PT X e t) (i : ∀ s H Q, t' s H Q → t s H Q) : PT X e t' := ⟨fun pins s σ H Q I w => h.run pins s σ H Q I (i _ _ _ w)⟩
theorem pw_imp {t t' : TT} (h : PW X e t) (i : ∀ s H Q, t' s H Q → t s H Q) : PW X e t' := ⟨fun wh pins s σ H Q I w => h.run wh pins s σ H Q I (i _ _ _ w)⟩
theorem pa_imp {es : List Expr} {t t' : TA} (h : PA X es t) (i : ∀ s H Q, t' s H Q → t s H Q) : PA X es t' := ⟨fun pos pins s σ H Q I w => h.run pos pins s σ H Q I (i _ _ _ w)⟩
theorem pg_imp {t t' : TG} (h : PG X e t) (i : ∀ v s H Q, t' v s H Q → t v s H Q) : PG X e t' := ⟨fun pins s σ H v u Q I r w => h.run pins s σ H v u Q I r (i _ _ _ _ w)⟩
theorem pi_imp {tg : Expr} {t t' : TI} (h : PI X tg e t) (i : ∀ s H Q, t' s H Q → t s H Q) : PI X tg e t' := ⟨fun pins s σ H Q I w => h.run pins s σ H Q I (i _ _ _ w)⟩
theorem ps_imp {st : Stmt} {t t' : TS} (h : PS X st t) (i : ∀ E s H, t' E s H → t E s H) : PS X st t' := ⟨fun pins s σ H D I w => h.run pins s σ H D I (i _ _ _ w)⟩
theorem pss_imp {st : List Stmt} {t t' : TS} (h : PSs X st t) (i : ∀ E s H, t' E s H → t E s H) : PSs X st t' := ⟨fun pins s σ H D I w => h.run pins s σ H D I (i _ _ _ w)⟩

/-! ### what is walked -/
def iSeq (K : PySem.W.Frag) (tl : TE) : TI := fun σ H R => tl σ H fun x H1 => ∃ a, x = .ref a ∧ (((∃ xs, SqL K H1 a xs) ∧ R (Itl K a) H1) ∨ ((∃ xs, SqT K H1 a xs) ∧ R (Itt K a) H1))
theorem pi_seq {tg l : Expr} {tl : TE} (hl : PE X l tl) : PI X tg l (iSeq X.K tl) := by
  refine ⟨fun pins s σ H R I h => ?_⟩
  refine thn (hl.run pins s σ H _ I h) fun v s1 ⟨x, H1, I1, r1, q1⟩ => ?_
  obtain ⟨a, e, q⟩ := q1
  subst e
  cases r1
  rcases q with ⟨⟨xs, hq⟩, q⟩ | ⟨⟨xs, hq⟩, q⟩
  · obtain ⟨its, rv, p, hz⟩ := I1.list hq
    refine wpAny_pyIter_list p.isList ?_
    refine ⟨s1.heap.objs.size, [s1.heap.objs.size], _, _, H1, rfl, I1.kept (t' := s1.toks) fun b o e => Heap.get?_push_of_some _ e, turn_list a _, ⟨_, Heap.get?_push_size _ rfl, rfl, rfl⟩, fun b hb => ?_, q⟩
    have e : b = s1.heap.objs.size := by simpa using hb
    subst e
    exact I1.fpOk (Nat.le_refl _) (I1.hok.fresh (Nat.le_refl _))
  · obtain ⟨its, rv, p, hz⟩ := I1.tuple hq
    refine wpAny_pyIter_tuple (show s1.heap.IsTuple a its.toArray from p) ?_
    refine ⟨s1.heap.objs.size, [s1.heap.objs.size], _, _, H1, rfl, I1.kept (t' := s1.toks) fun b o e => Heap.get?_push_of_some _ e, turn_tuple a _, ⟨_, Heap.get?_push_size _ rfl, rfl, rfl⟩, fun b hb => ?_, q⟩
    have e : b = s1.heap.objs.size := by simpa using hb
    subst e
    exact I1.fpOk (Nat.le_refl _) (I1.hok.fresh (Nat.le_refl _))
end
section
variable {K : PySem.W.Frag} {loc : List Addr} {H : Hp}
theorem sqt_inj {a : Addr} {xs ys : List V} (h : SqT K H a xs) (h' : ∀ zs, SqT K H a zs → zs = xs) (q : SqT K H a ys) : ys = xs := h' _ q
theorem snap_tup {a : Addr} {vs : List V} {ds : List D} (s : SqT K H a vs) (r : RDs K loc H ds vs) : SnapJ K (Itt K a) ds loc H where
  stop := fun i loc' H' e x => ⟨vs, x.tp _ _ s, by rw [r.length]; exact List.getElem?_eq_none_iff.mp e⟩
  go := fun i d loc' H' e x => by
    obtain ⟨v, hv, _⟩ := r.at_ e
    exact ⟨vs, v, x.tp _ _ s, hv⟩
  yld := fun i d loc' H' z H2 h e x rh y => by
    obtain ⟨rfl, y⟩ := y
    have hz := y vs (x.tp _ _ s)
    exact ⟨loc', Xt.refl, rh, (r.pt hz e).mono x⟩
theorem snap_frz {a : Addr} {vs : List V} {ds : List D} (s : Fz K H a vs) (r : RDs K loc H ds vs) : SnapJ K (Itl K a) ds loc H where
  stop := fun i loc' H' e x => ⟨vs, (x.fz _ _ s).sq, by rw [r.length]; exact List.getElem?_eq_none_iff.mp e⟩
  go := fun i d loc' H' e x => by
    obtain ⟨v, hv, _⟩ := r.at_ e
    exact ⟨vs, v, (x.fz _ _ s).sq, hv⟩
  yld := fun i d loc' H' z H2 h e x rh y => by
    obtain ⟨rfl, y⟩ := y
    have hz := y vs (x.fz _ _ s).sq
    exact ⟨loc', Xt.refl, rh, (r.pt hz e).mono x⟩
theorem range_at : ∀ (n : Nat) (lo : Int) (k i : Nat), (range n lo k)[i]? = if i < n then some (.int (lo + (k + i : Nat))) else none
  | 0, lo, k, i => by simp [range]
  | n + 1, lo, k, 0 => by simp [range]
  | n + 1, lo, k, i + 1 => by
    have h := range_at n lo (k + 1) i
    show (range n lo (k + 1))[i]? = _
    rw [h]
    by_cases c : i < n
    · rw [if_pos c, if_pos (by omega)]
      have : k + 1 + i = k + (i + 1) := by omega
      rw [this]
    · rw [if_neg c, if_neg (by omega)]
theorem snap_rng {lo : Int} {n : Nat} : SnapJ K (Itr lo n) (range n lo 0) loc H where
  stop := fun i loc' H' e x => by
    rw [range_at] at e
    split at e
    · cases e
    · show n ≤ i
      omega
  go := fun i d loc' H' e x => by
    rw [range_at] at e
    split at e
    · assumption
    · cases e
  yld := fun i d loc' H' z H2 h e x rh y => by
    obtain ⟨rfl, rfl⟩ := y
    rw [range_at] at e
    split at e
    · cases e
      rw [Nat.zero_add]
      exact ⟨loc', Xt.refl, rh, rd_int⟩
    · cases e
end

section
variable {X : Cx}
/-! ### loops -/
def wFor (wi : Sg → Hh → (MW → Hh → Prop) → Prop) (g : D → Sg → Hh → (Sg → Hh → Prop) → Prop) (b : Es → Sg → Hh → Prop) : Es → Sg → Hh → Prop := fun R σ h => wi σ h fun w h1 => (match w with
  | .snap xs => loopS g b R xs σ h1
  | .live n => loopL g b R n fuel 0 σ h1)
theorem for_ok {wi : Sg → Hh → (MW → Hh → Prop) → Prop} {g : D → Sg → Hh → (Sg → Hh → Prop) → Prop} {b : Es → Sg → Hh → Prop} {E : Ends} {s : L2.St} {H : Hp} (h : lfS X.K (wFor wi g b) E s H) :
    tFor (lfI X.K wi) (lfG X.K g) (lfS X.K b) E s H := by
  obtain ⟨loc, σ, hh, R, rs, rh, w, k⟩ := h
  refine ⟨loc, σ, hh, _, rs, rh, w, fun wk h' J H' loc' q x rh' wj => ?_⟩
  have rs' := rs.mono x
  have k' := k.mono x
  cases wk with
  | snap xs =>
    have wj' : SnapJ X.K J xs loc' H' := wj
    refine ⟨fun i m s2 H2 => ∃ loc2 σ2 h2, Xt X.K loc' H' loc2 H2 ∧ m = (xs.drop i).length ∧ RS X.K loc2 H2 σ2 s2 ∧ RH X.K loc2 H2 h2 ∧ loopS g b R (xs.drop i) σ2 h2, ⟨_, loc', σ, h', Xt.refl, rfl, rs', rh', q⟩, ?_⟩
    rintro i m s2 H2 ⟨loc2, σ2, h2, x2, rfl, rs2, rh2, q2⟩
    cases hx : xs[i]? with
    | none =>
      have e : xs.drop i = [] := List.drop_eq_nil_of_le (List.getElem?_eq_none_iff.mp hx)
      rw [e] at q2
      exact .inl ⟨wj'.stop i loc2 H2 hx x2, k'.nx _ _ _ _ loc2 q2 x2 rh2 rs2⟩
    | some d =>
      obtain ⟨hl, hd⟩ := List.getElem?_eq_some_iff.mp hx
      have e : xs.drop i = d :: xs.drop (i + 1) := by rw [List.drop_eq_getElem_cons hl, hd]
      rw [e] at q2
      refine .inr ⟨wj'.go i d loc2 H2 hx x2, fun s3 H3 => ∃ loc3 σ3 h3, Xt X.K loc' H' loc3 H3 ∧ RS X.K loc3 H3 σ3 s3 ∧ RH X.K loc3 H3 h3 ∧ loopS g b R (xs.drop (i + 1)) σ3 h3, fun s3 H3 ⟨loc3, σ3, h3, x3, rs3, rh3, q3⟩ => ⟨_, by rw [e]; exact Nat.lt_succ_self _, loc3, σ3, h3, x3, rfl, rs3, rh3, q3⟩, fun v H3 y => ?_⟩
      obtain ⟨loc3, x3, rh3, rd⟩ := wj'.yld i d loc2 H2 v H3 h2 hx x2 rh2 y
      refine ⟨loc3, d, σ2, h2, _, rd, rs2.mono x3, rh3, q2, fun σ4 h4 s4 H4 loc4 q4 x4 rh4 rs4 => ?_⟩
      have xx := x2.trans (x3.trans x4)
      refine ⟨loc4, σ4, h4, _, rs4, rh4, q4, ⟨fun σ5 h5 s5 H5 loc5 q5 x5 rh5 rs5 => ⟨loc5, σ5, h5, xx.trans x5, rs5, rh5, q5⟩, (k'.mono xx).rt, (k'.mono xx).nx, fun σ5 h5 s5 H5 loc5 q5 x5 rh5 rs5 => ⟨loc5, σ5, h5, xx.trans x5, rs5, rh5, q5⟩⟩⟩
  | live n =>
    obtain ⟨a, rfl, la⟩ := (show ∃ a, J = Itl X.K a ∧ loc'[n]? = some a from wj)
    refine ⟨fun i m s2 H2 => ∃ loc2 σ2 h2, Xt X.K loc' H' loc2 H2 ∧ RS X.K loc2 H2 σ2 s2 ∧ RH X.K loc2 H2 h2 ∧ loopL g b R n m i σ2 h2, ⟨fuel, loc', σ, h', Xt.refl, rs', rh', q⟩, ?_⟩
    rintro i m s2 H2 ⟨loc2, σ2, h2, x2, rs2, rh2, q2⟩
    cases m with
    | zero => exact q2.elim
    | succ m =>
      unfold loopL at q2
      split at q2
      · rename_i xs hn
        obtain ⟨a2, la2, vs, ha, rr⟩ := rh2.ob n _ hn
        have e2 : a2 = a := Option.some.inj (la2.symm.trans (x2.lc _ _ la))
        subst e2
        split at q2
        · rename_i hx
          exact .inl ⟨⟨vs, SqL.of ha, by rw [rr.length]; exact List.getElem?_eq_none_iff.mp hx⟩, k'.nx _ _ _ _ loc2 q2 x2 rh2 rs2⟩
        · rename_i d hx
          obtain ⟨v0, hv0, rd⟩ := rr.at_ hx
          refine .inr ⟨⟨vs, v0, SqL.of ha, hv0⟩, fun s3 H3 => ∃ loc3 σ3 h3, Xt X.K loc' H' loc3 H3 ∧ RS X.K loc3 H3 σ3 s3 ∧ RH X.K loc3 H3 h3 ∧ loopL g b R n m (i + 1) σ3 h3, fun s3 H3 ⟨loc3, σ3, h3, x3, rs3, rh3, q3⟩ => ⟨m, Nat.lt_succ_self _, loc3, σ3, h3, x3, rs3, rh3, q3⟩, fun v H3 y => ?_⟩
          obtain ⟨rfl, y⟩ := y
          have ev : vs[i]? = some v := y vs (SqL.of ha)
          have e3 : v0 = v := Option.some.inj (hv0.symm.trans ev)
          subst e3
          refine ⟨loc2, d, σ2, h2, _, rd, rs2, rh2, q2, fun σ4 h4 s4 H4 loc4 q4 x4 rh4 rs4 => ?_⟩
          have xx := x2.trans x4
          refine ⟨loc4, σ4, h4, _, rs4, rh4, q4, ⟨fun σ5 h5 s5 H5 loc5 q5 x5 rh5 rs5 => ⟨loc5, σ5, h5, xx.trans x5, rs5, rh5, q5⟩, (k'.mono xx).rt, (k'.mono xx).nx, fun σ5 h5 s5 H5 loc5 q5 x5 rh5 rs5 => ⟨loc5, σ5, h5, xx.trans x5, rs5, rh5, q5⟩⟩⟩
      · exact q2.elim
theorem while_ok {c : Sg → Hh → (Bool → Hh → Prop) → Prop} {b : Es → Sg → Hh → Prop} {E : Ends} {s : L2.St} {H : Hp} {n : Nat} (h : lfS X.K (fun R σ h => loopW c b R n σ h) E s H) : tWhile (lfT X.K c) (lfS X.K b) E s H := by
  obtain ⟨loc, σ, hh, R, rs, rh, w, k⟩ := h
  refine ⟨fun m s2 H2 => ∃ loc2 σ2 h2, Xt X.K loc H loc2 H2 ∧ RS X.K loc2 H2 σ2 s2 ∧ RH X.K loc2 H2 h2 ∧ loopW c b R m σ2 h2, ⟨n, loc, σ, hh, Xt.refl, rs, rh, w⟩, ?_⟩
  rintro m s2 H2 ⟨loc2, σ2, h2, x2, rs2, rh2, q2⟩
  cases m with
  | zero => exact q2.elim
  | succ m =>
    refine ⟨loc2, σ2, h2, _, rs2, rh2, q2, fun d h3 H3 loc3 q3 x3 rh3 => ?_⟩
    have xx := x2.trans x3
    rcases br_e q3 with ⟨rfl, q3'⟩ | ⟨rfl, q3'⟩
    · refine L2.iteT ?_
      refine ⟨fun s5 H5 => ∃ loc5 σ5 h5, Xt X.K loc H loc5 H5 ∧ RS X.K loc5 H5 σ5 s5 ∧ RH X.K loc5 H5 h5 ∧ loopW c b R m σ5 h5, fun s5 H5 q5 => ⟨m, Nat.lt_succ_self _, q5⟩, loc3, σ2, h3, _, rs2.mono x3, rh3, q3', ?_⟩
      exact ⟨fun σ5 h5 s5 H5 loc5 q5 x5 rh5 rs5 => ⟨loc5, σ5, h5, xx.trans x5, rs5, rh5, q5⟩, (k.mono xx).rt, (k.mono xx).nx, fun σ5 h5 s5 H5 loc5 q5 x5 rh5 rs5 => ⟨loc5, σ5, h5, xx.trans x5, rs5, rh5, q5⟩⟩
    · refine L2.iteF ?_
      exact k.nx _ _ _ _ loc3 q3' xx rh3 (rs2.mono x3)
/-! ### comprehensions -/
def wLc (wi : Sg → Hh → (MW → Hh → Prop) → Prop) (g : D → Sg → Hh → (Sg → Hh → Prop) → Prop) (c : Sg → Hh → (Bool → Hh → Prop) → Prop) (e : Sg → Hh → Kd → Prop) (vs : List Nat) : Sg → Hh → Kd → Prop := fun σ h Q => wi σ h fun w h1 => new (.lst []) h1 fun r h2 => (match r with
  | .ref p => (match w with
    | .snap xs => compS g c e (wipes σ vs) p Q xs h2
    | .live n => compL g c e (wipes σ vs) p Q n fuel 0 h2)
  | _ => False)
/-- a target that stores the slots vs alone -/
def OwnG (K : PySem.W.Frag) (g : D → Sg → Hh → (Sg → Hh → Prop) → Prop) (tg : TG) (vs : List Nat) : Prop := ∀ (loc : List Addr) (d : D) (v : V) (σ : Sg) (s : L2.St) (h : Hh) (H : Hp) (Q : Sg → Hh → Prop) (R : L2.St → Hp → Prop), RD K loc H d v → RS K loc H σ s → RH K loc H h → g d σ h Q →
  (∀ s2 σ2, L2.wipe s2 vs = L2.wipe s vs → RS K loc H σ2 s2 → Q σ2 h → R s2 H) → tg v s H R
theorem wipe_wipe (s : L2.St) (vs : List Nat) : L2.wipe (L2.wipe s vs) vs = L2.wipe s vs := by
  refine List.ext_getElem? fun i => ?_
  by_cases hi : i ∈ vs
  · have key : ∀ (t : L2.St) (us : List Nat), i ∈ us → (L2.wipe t us)[i]? = if i < t.length then some none else none := by
      intro t us
      induction us with
      | nil => intro h; cases h
      | cons u us ih =>
        intro h
        show ((L2.wipe t us).set u none)[i]? = _
        rw [List.getElem?_set, L2.wipe_length]
        by_cases hu : u = i
        · rw [if_pos hu]
          subst hu
          rfl
        · rw [if_neg hu]
          exact ih (by rcases List.mem_cons.mp h with e | e; exact absurd e.symm hu; exact e)
    rw [key _ _ hi, key _ _ hi, L2.wipe_length]
  · rw [L2.wipe_out hi]
theorem lc_ok {wi : Sg → Hh → (MW → Hh → Prop) → Prop} {g : D → Sg → Hh → (Sg → Hh → Prop) → Prop} {c : Sg → Hh → (Bool → Hh → Prop) → Prop} {e : Sg → Hh → Kd → Prop} {tg : TG} {vs : List Nat} {s : L2.St} {H : Hp} {Q : VK} (og : OwnG X.K g tg vs)
    (h : lfE X.K (wLc wi g c e vs) s H Q) : tLc (lfI X.K wi) tg (lfT X.K c) (lfE X.K e) vs s H Q := by
  obtain ⟨loc, σ, hh, Q', rs, rh, w, k⟩ := h
  refine ⟨loc, σ, hh, _, rs, rh, w, fun wk h' J H' loc' q x rh' wj p hp => ?_⟩
  replace q := new_e q
  have rs' := (rs.mono x).mono (Xt.new (K := X.K) (u := .lst []) hp)
  have x1 : Xt X.K loc' H' (loc' ++ [p]) (upd H' p (.lst [])) := Xt.new hp
  have rh1 : RH X.K (loc' ++ [p]) (upd H' p (.lst [])) (h' ++ [.lst []]) := rh'.new hp RDs.nil
  have lp : (loc' ++ [p])[h'.length]? = some p := by rw [← rh'.len]; simp
  -- the element's store
  have fin : ∀ {loc4 : List Addr} {H4 : Hp} {y : V} {dy : D} {h4 : Hh} {P : Hh → Prop} {N : Hp → Prop}, Xt X.K (loc' ++ [p]) (upd H' p (.lst [])) loc4 H4 → RH X.K loc4 H4 h4 → RD X.K loc4 H4 dy y →
      (rdL h4 h'.length fun acc => chk (decide (acc.length < sizeLine)) (put h4 h'.length (.lst (acc ++ [dy])) P)) → (∀ h5 H5, P h5 → Xt X.K loc4 H4 loc4 H5 → RH X.K loc4 H5 h5 → N H5) → ∃ acc, H4 p = some (.lst acc) ∧ acc.length < sizeLine ∧ N (upd H4 p (.lst (acc ++ [y]))) := by
    intro loc4 H4 y dy h4 P N x4 rh4 rd4 m nn
    · obtain ⟨acc, hn, m⟩ := rdL_e m
      obtain ⟨c, m⟩ := chk_e m
      obtain ⟨a2, la2, vs2, ha, rr⟩ := rh4.ob _ _ hn
      have e2 : a2 = p := Option.some.inj (la2.symm.trans (x4.lc _ _ lp))
      subst e2
      exact ⟨vs2, ha, by rw [rr.length]; exact of_decide_eq_true c, nn _ _ (put_e m) (Xt.hid (.inr (.inl ⟨_, ha⟩))) (rh4.set hn la2 (rr.append (RDs.cons rd4 RDs.nil)))⟩
  cases wk with
  | snap xs =>
    have wj' : SnapJ X.K J xs loc' H' := wj
    refine ⟨fun i m H2 => ∃ loc2 h2, Xt X.K (loc' ++ [p]) (upd H' p (.lst [])) loc2 H2 ∧ m = (xs.drop i).length ∧ RH X.K loc2 H2 h2 ∧ compS g c e (wipes σ vs) h'.length Q' (xs.drop i) h2, ⟨_, _, _, Xt.refl, rfl, rh1, q⟩, ?_⟩
    rintro i m H2 ⟨loc2, h2, x2, rfl, rh2, q2⟩
    cases hx : xs[i]? with
    | none =>
      have e : xs.drop i = [] := List.drop_eq_nil_of_le (List.getElem?_eq_none_iff.mp hx)
      rw [e] at q2
      exact .inl ⟨wj'.stop i loc2 H2 hx (x1.trans x2), k _ _ _ _ loc2 q2 (x.trans (x1.trans x2)) rh2 (rd_ref (x2.lc _ _ lp))⟩
    | some d =>
      obtain ⟨hl, hd⟩ := List.getElem?_eq_some_iff.mp hx
      have ee : xs.drop i = d :: xs.drop (i + 1) := by rw [List.drop_eq_getElem_cons hl, hd]
      rw [ee] at q2
      refine .inr ⟨wj'.go i d loc2 H2 hx (x1.trans x2), fun H3 => ∃ loc3 h3, Xt X.K (loc' ++ [p]) (upd H' p (.lst [])) loc3 H3 ∧ RH X.K loc3 H3 h3 ∧ compS g c e (wipes σ vs) h'.length Q' (xs.drop (i + 1)) h3, fun H3 ⟨loc3, h3, x3, rh3, q3⟩ => ⟨_, by rw [ee]; exact Nat.lt_succ_self _, loc3, h3, x3, rfl, rh3, q3⟩, fun v H3 y => ?_⟩
      obtain ⟨loc3, x3, rh3, rd⟩ := wj'.yld i d loc2 H2 v H3 h2 hx (x1.trans x2) rh2 y
      have rsw : RS X.K loc3 H3 (wipes σ vs) (L2.wipe s vs) := ((rs'.mono x2).mono x3).wipe vs
      refine og loc3 d v _ _ h2 H3 _ _ rd rsw rh3 q2 fun s4 σ4 ws rs4 q4 => ⟨ws.trans (wipe_wipe s vs), loc3, σ4, h2, _, rs4, rh3, q4, fun b h5 H5 loc5 q5 x5 rh5 => ?_⟩
      rcases br_e q5 with ⟨rfl, q5'⟩ | ⟨rfl, q5'⟩
      · refine L2.iteT ?_
        refine ⟨loc5, σ4, h5, _, rs4.mono x5, rh5, q5', fun dy h6 y6 H6 loc6 q6 x6 rh6 rd6 => ?_⟩
        have xx := x2.trans (x3.trans (x5.trans x6))
        exact fin (N := fun H3 => ∃ loc3 h3, Xt X.K (loc' ++ [p]) (upd H' p (.lst [])) loc3 H3 ∧ RH X.K loc3 H3 h3 ∧ compS g c e (wipes σ vs) h'.length Q' (xs.drop (i + 1)) h3) xx rh6 rd6 q6 fun h7 H7 q7 x7 rh7 => ⟨loc6, h7, xx.trans x7, rh7, q7⟩
      · refine L2.iteF ?_
        exact ⟨loc5, h5, x2.trans (x3.trans x5), rh5, q5'⟩
  | live n =>
    obtain ⟨a, rfl, la⟩ := (show ∃ a, J = Itl X.K a ∧ loc'[n]? = some a from wj)
    refine ⟨fun i m H2 => ∃ loc2 h2, Xt X.K (loc' ++ [p]) (upd H' p (.lst [])) loc2 H2 ∧ RH X.K loc2 H2 h2 ∧ compL g c e (wipes σ vs) h'.length Q' n m i h2, ⟨fuel, _, _, Xt.refl, rh1, q⟩, ?_⟩
    rintro i m H2 ⟨loc2, h2, x2, rh2, q2⟩
    cases m with
    | zero => exact q2.elim
    | succ m =>
      unfold compL at q2
      split at q2
      · rename_i xs hn
        obtain ⟨a2, la2, ws, ha, rr⟩ := rh2.ob n _ hn
        have e2 : a2 = a := Option.some.inj (la2.symm.trans ((x1.trans x2).lc _ _ la))
        subst e2
        split at q2
        · rename_i hx
          exact .inl ⟨⟨ws, SqL.of ha, by rw [rr.length]; exact List.getElem?_eq_none_iff.mp hx⟩, k _ _ _ _ loc2 q2 (x.trans (x1.trans x2)) rh2 (rd_ref (x2.lc _ _ lp))⟩
        · rename_i d hx
          obtain ⟨v0, hv0, rd⟩ := rr.at_ hx
          refine .inr ⟨⟨ws, v0, SqL.of ha, hv0⟩, fun H3 => ∃ loc3 h3, Xt X.K (loc' ++ [p]) (upd H' p (.lst [])) loc3 H3 ∧ RH X.K loc3 H3 h3 ∧ compL g c e (wipes σ vs) h'.length Q' n m (i + 1) h3, fun H3 ⟨loc3, h3, x3, rh3, q3⟩ => ⟨m, Nat.lt_succ_self _, loc3, h3, x3, rh3, q3⟩, fun v H3 y => ?_⟩
          obtain ⟨rfl, y⟩ := y
          have ev : ws[i]? = some v := y ws (SqL.of ha)
          have e3 : v0 = v := Option.some.inj (hv0.symm.trans ev)
          subst e3
          have rsw : RS X.K loc2 H3 (wipes σ vs) (L2.wipe s vs) := (rs'.mono x2).wipe vs
          refine og loc2 d v0 _ _ h2 H3 _ _ rd rsw rh2 q2 fun s4 σ4 ws rs4 q4 => ⟨ws.trans (wipe_wipe s vs), loc2, σ4, h2, _, rs4, rh2, q4, fun b h5 H5 loc5 q5 x5 rh5 => ?_⟩
          rcases br_e q5 with ⟨rfl, q5'⟩ | ⟨rfl, q5'⟩
          · refine L2.iteT ?_
            refine ⟨loc5, σ4, h5, _, rs4.mono x5, rh5, q5', fun dy h6 y6 H6 loc6 q6 x6 rh6 rd6 => ?_⟩
            have xx := x2.trans (x5.trans x6)
            exact fin (N := fun H3 => ∃ loc3 h3, Xt X.K (loc' ++ [p]) (upd H' p (.lst [])) loc3 H3 ∧ RH X.K loc3 H3 h3 ∧ compL g c e (wipes σ vs) h'.length Q' n m (i + 1) h3) xx rh6 rd6 q6 fun h7 H7 q7 x7 rh7 => ⟨loc6, h7, xx.trans x7, rh7, q7⟩
          · refine L2.iteF ?_
            exact ⟨loc5, h5, x2.trans x5, rh5, q5'⟩
      · exact q2.elim
end
end Mi

set_option Elab.async false
set_option linter.all false
set_option maxRecDepth 100000
set_option maxHeartbeats 1000000
/-! Mi: its words, one by one, are the layer's. -/
namespace Mi
open PySem PySem.Spec PyProof.Rows L2

abbrev TwE := Sg → Hh → Kd → Prop
abbrev TwT := Sg → Hh → (Bool → Hh → Prop) → Prop
abbrev TwA := Sg → Hh → (List D → Hh → Prop) → Prop
abbrev TwG := D → Sg → Hh → (Sg → Hh → Prop) → Prop
abbrev TwI := Sg → Hh → (MW → Hh → Prop) → Prop
abbrev TwS := Es → Sg → Hh → Prop
section
variable {X : Cx} {a b c e : Expr} {ta tb tc te : TwE} {tt : TwT} {pos p apos : Pos} {es : List Expr} {as : TwA}
theorem s_cst {d : D} {v : V} (h : PE X e (tC v)) (r : ∀ loc H, RD X.K loc H d v) : PE X e (lfE X.K fun _ h Q => Q d h) :=
  pe_imp h fun s H Q ⟨loc, σ, hh, Q', rs, rh, w, k⟩ => k.here rh w (r _ _)
theorem s_var {i : Nat} (h : PE X e (tVar i)) : PE X e (lfE X.K fun σ h Q => look σ i fun d => Q d h) :=
  pe_imp h fun s H Q ⟨loc, σ, hh, Q', rs, rh, w, k⟩ => by
    have w' : look σ i fun d => Q' d hh := w
    unfold look at w'
    split at w'
    · rename_i d hd
      obtain ⟨v, hv, r⟩ := rs.2 i d hd
      exact ⟨v, hv, k.here rh w' r⟩
    · exact w'.elim
theorem s_bin (op : BOp) (ha : PE X a (lfE X.K ta)) (hb : PE X b (lfE X.K tb)) : PE X (.BinOp a (bopOf op) b pos) (lfE X.K fun σ h Q => ta σ h fun x h1 => tb σ h1 fun y h2 => opBin op x y h2 Q) :=
  pe_imp (pe_op (op_bin op) ha hb) fun s H Q ⟨loc, σ, h, Q', rs, rh, w, k⟩ => ⟨loc, σ, h, _, rs, rh, w, fun x h1 vx H1 loc1 q1 x1 rh1 r1 => ⟨loc1, σ, h1, _, rs.mono x1, rh1, q1, fun y h2 vy H2 loc2 q2 x2 rh2 r2 =>
    ⟨loc2, h2, x, y, Q', rh2, r1.mono x2, r2, q2, k.mono (x1.trans x2)⟩⟩⟩
theorem s_neg (ha : PE X a (lfE X.K ta)) : PE X (.UnaryOp .USub a pos) (lfE X.K fun σ h Q => ta σ h fun x h1 => (match x with | .int i => Q (.int (-i)) h1 | _ => False)) :=
  pe_imp (pe_un un_neg ha) fun s H Q ⟨loc, σ, h, Q', rs, rh, w, k⟩ => ⟨loc, σ, h, _, rs, rh, w, fun x h1 vx H1 loc1 q1 x1 rh1 r1 => by
    cases x <;> try exact q1.elim
    cases r1.int_
    exact ⟨_, rfl, (k.mono x1).here rh1 q1 rd_int⟩⟩
theorem s_not (ha : PE X a (lfE X.K ta)) : PE X (.UnaryOp .Not a pos) (lfE X.K fun σ h Q => ta σ h fun x h1 => truth x h1 fun b => Q (.bl (!b)) h1) :=
  pe_imp (pe_notT ha) fun s H Q ⟨loc, σ, h, Q', rs, rh, w, k⟩ => ⟨loc, σ, h, _, rs, rh, w, fun x h1 vx H1 loc1 q1 x1 rh1 r1 => by
    obtain ⟨kk, e, q⟩ := truth_ok rh1 r1 q1
    exact ⟨kk, e, (k.mono x1).here rh1 q rd_bl⟩⟩
theorem s_cmp (op : COp) (ha : PE X a (lfE X.K ta)) (hb : PE X b (lfE X.K tb)) (hm : behindInMarks (copOf op) b = false) : PE X (.Compare a [copOf op] [b] pos) (lfE X.K fun σ h Q => ta σ h fun x h1 => tb σ h1 fun y h2 => opCmp op x y h2 fun r => Q (.bl r) h2) :=
  pe_imp (pe_cmpR (op_cmp op) ha hb hm) fun s H Q ⟨loc, σ, h, Q', rs, rh, w, k⟩ => ⟨loc, σ, h, _, rs, rh, w, fun x h1 vx H1 loc1 q1 x1 rh1 r1 => ⟨loc1, σ, h1, _, rs.mono x1, rh1, q1, fun y h2 vy H2 loc2 q2 x2 rh2 r2 =>
    ⟨loc2, h2, x, y, Q', rh2, r1.mono x2, r2, q2, k.mono (x1.trans x2)⟩⟩⟩
theorem opCmp_mono {op : COp} {x y : D} {h : Hh} {R R' : Bool → Prop} (i : ∀ r, R r → R' r) (z : opCmp op x y h R) : opCmp op x y h R' := by
  cases op with
  | isin =>
    obtain ⟨xs, e, w⟩ := sq_e (show sq h y _ from z)
    obtain ⟨z1, z2⟩ := chk_e w
    exact sq_i e (chk_i z1 (i _ z2))
  | notin =>
    obtain ⟨xs, e, w⟩ := sq_e (show sq h y _ from z)
    obtain ⟨z1, z2⟩ := chk_e w
    exact sq_i e (chk_i z1 (i _ z2))
  | _ => cases x <;> cases y <;> first | exact i _ z | exact z.elim
theorem b_cmp (op : COp) (ha : PE X a (lfE X.K ta)) (hb : PE X b (lfE X.K tb)) (hm : behindInMarks (copOf op) b = false) : PT X (.Compare a [copOf op] [b] pos) (lfT X.K fun σ h Q => ta σ h fun x h1 => tb σ h1 fun y h2 => opCmp op x y h2 fun r => Q r h2) :=
  pt_imp (pt_cmpR (op_cmp op) ha hb hm) fun s H Q ⟨loc, σ, h, Q', rs, rh, w, k⟩ => ⟨loc, σ, h, _, rs, rh, w, fun x h1 vx H1 loc1 q1 x1 rh1 r1 => ⟨loc1, σ, h1, _, rs.mono x1, rh1, q1, fun y h2 vy H2 loc2 q2 x2 rh2 r2 =>
    ⟨loc2, h2, x, y, fun d h3 => h3 = h2 ∧ ∃ r, d = .bl r ∧ Q' r h2, rh2, r1.mono x2, r2, opCmp_mono (fun r z => ⟨rfl, r, rfl, z⟩) q2, fun d h3 v3 H3 loc3 q3 x3 rh3 r3 => by
        obtain ⟨rfl, r, rfl, q⟩ := q3
        cases r3.bl_
        exact ⟨r, rfl, k r h3 H3 loc3 q (x1.trans (x2.trans x3)) rh3⟩⟩⟩⟩
theorem s_chain (op op' : COp) (ha : PE X a (lfE X.K ta)) (hb : PE X b (lfE X.K tb)) (hc : PE X c (lfE X.K tc)) (hm : lastMarks [copOf op, copOf op'] [b, c] = false) :
    PE X (.Compare a [copOf op, copOf op'] [b, c] pos) (lfE X.K fun σ h Q => ta σ h fun x h1 => tb σ h1 fun y h2 => opCmp op x y h2 fun r => br r (tc σ h2 fun z h3 => opCmp op' y z h3 fun r' => Q (.bl r') h3) (Q (.bl false) h2)) :=
  pe_imp (pe_chain (op_cmp op) (op_cmp op') ha hb hc hm) fun s H Q ⟨loc, σ, h, Q', rs, rh, w, k⟩ => ⟨loc, σ, h, _, rs, rh, w, fun x h1 vx H1 loc1 q1 x1 rh1 r1 => ⟨loc1, σ, h1, _, rs.mono x1, rh1, q1, fun y h2 vy H2 loc2 q2 x2 rh2 r2 =>
    ⟨loc2, h2, x, y, fun d h3 => h3 = h2 ∧ ∃ r, d = .bl r ∧ br r (tc σ h2 fun z h3 => opCmp op' y z h3 fun r' => Q' (.bl r') h3) (Q' (.bl false) h2), rh2, r1.mono x2, r2, opCmp_mono (fun r z => ⟨rfl, r, rfl, z⟩) q2, fun d h3 v3 H3 loc3 q3 x3 rh3 r3 => by
      obtain ⟨rfl, r, rfl, q⟩ := q3
      cases r3.bl_
      refine ⟨r, rfl, ?_⟩
      rcases br_e q with ⟨rfl, q'⟩ | ⟨rfl, q'⟩
      · exact L2.iteT ⟨loc3, σ, h3, _, ((rs.mono x1).mono x2).mono x3, rh3, q', fun z h4 vz H4 loc4 q4 x4 rh4 r4 => ⟨loc4, h4, y, z, Q', rh4, (r2.mono x3).mono x4, r4, q4, k.mono (x1.trans (x2.trans (x3.trans x4)))⟩⟩
      · exact L2.iteF ((k.mono (x1.trans (x2.trans x3))).here rh3 q' rd_bl)⟩⟩⟩
theorem b_chain (op op' : COp) (ha : PE X a (lfE X.K ta)) (hb : PE X b (lfE X.K tb)) (hc : PE X c (lfE X.K tc)) (hm : lastMarks [copOf op, copOf op'] [b, c] = false) :
    PT X (.Compare a [copOf op, copOf op'] [b, c] pos) (lfT X.K fun σ h Q => ta σ h fun x h1 => tb σ h1 fun y h2 => opCmp op x y h2 fun r => br r (tc σ h2 fun z h3 => opCmp op' y z h3 fun r' => Q r' h3) (Q false h2)) :=
  pt_imp (pt_chain (op_cmp op) (op_cmp op') ha hb hc hm) fun s H Q ⟨loc, σ, h, Q', rs, rh, w, k⟩ => ⟨loc, σ, h, _, rs, rh, w, fun x h1 vx H1 loc1 q1 x1 rh1 r1 => ⟨loc1, σ, h1, _, rs.mono x1, rh1, q1, fun y h2 vy H2 loc2 q2 x2 rh2 r2 =>
    ⟨loc2, h2, x, y, fun d h3 => h3 = h2 ∧ ∃ r, d = .bl r ∧ br r (tc σ h2 fun z h3 => opCmp op' y z h3 fun r' => Q' r' h3) (Q' false h2), rh2, r1.mono x2, r2, opCmp_mono (fun r z => ⟨rfl, r, rfl, z⟩) q2, fun d h3 v3 H3 loc3 q3 x3 rh3 r3 => by
      obtain ⟨rfl, r, rfl, q⟩ := q3
      cases r3.bl_
      refine ⟨r, rfl, ?_⟩
      rcases br_e q with ⟨rfl, q'⟩ | ⟨rfl, q'⟩
      · refine L2.iteT ⟨loc3, σ, h3, _, ((rs.mono x1).mono x2).mono x3, rh3, q', fun z h4 vz H4 loc4 q4 x4 rh4 r4 => ⟨loc4, h4, y, z, fun d h5 => h5 = h4 ∧ ∃ r, d = .bl r ∧ Q' r h4, rh4, (r2.mono x3).mono x4, r4, opCmp_mono (fun r z => ⟨rfl, r, rfl, z⟩) q4, fun d h5 v5 H5 loc5 q5 x5 rh5 r5 => ?_⟩⟩
        obtain ⟨rfl, r, rfl, q⟩ := q5
        cases r5.bl_
        exact ⟨r, rfl, k r h5 H5 loc5 q (x1.trans (x2.trans (x3.trans (x4.trans x5)))) rh5⟩
      · exact L2.iteF ⟨false, rfl, k false h3 H3 loc3 q' (x1.trans (x2.trans x3)) rh3⟩⟩⟩⟩
theorem s_and {rest : List Expr} (ha : PE X a (lfE X.K ta)) (hb : PE X (.BoolOp .And (b :: rest) pos) (lfE X.K tb)) : PE X (.BoolOp .And (a :: b :: rest) pos) (lfE X.K fun σ h Q => ta σ h fun x h1 => (match x with | .bl r => br r (tb σ h1 Q) (Q (.bl false) h1) | _ => False)) :=
  pe_imp (pe_and ha hb) fun s H Q ⟨loc, σ, h, Q', rs, rh, w, k⟩ => ⟨loc, σ, h, _, rs, rh, w, fun x h1 vx H1 loc1 q1 x1 rh1 r1 => by
    cases x <;> try exact q1.elim
    cases r1.bl_
    refine ⟨_, rfl, ?_⟩
    rcases br_e q1 with ⟨rfl, q1'⟩ | ⟨rfl, q1'⟩
    · exact L2.iteT ⟨loc1, σ, h1, Q', rs.mono x1, rh1, q1', k.mono x1⟩
    · exact L2.iteF ((k.mono x1).here rh1 q1' rd_bl)⟩
theorem s_or {rest : List Expr} (ha : PE X a (lfE X.K ta)) (hb : PE X (.BoolOp .Or (b :: rest) pos) (lfE X.K tb)) : PE X (.BoolOp .Or (a :: b :: rest) pos) (lfE X.K fun σ h Q => ta σ h fun x h1 => (match x with | .bl r => br r (Q (.bl true) h1) (tb σ h1 Q) | _ => False)) :=
  pe_imp (pe_or ha hb) fun s H Q ⟨loc, σ, h, Q', rs, rh, w, k⟩ => ⟨loc, σ, h, _, rs, rh, w, fun x h1 vx H1 loc1 q1 x1 rh1 r1 => by
    cases x <;> try exact q1.elim
    cases r1.bl_
    refine ⟨_, rfl, ?_⟩
    rcases br_e q1 with ⟨rfl, q1'⟩ | ⟨rfl, q1'⟩
    · exact L2.iteT ((k.mono x1).here rh1 q1' rd_bl)
    · exact L2.iteF ⟨loc1, σ, h1, Q', rs.mono x1, rh1, q1', k.mono x1⟩⟩
theorem s_ife (ht : PT X c (lfT X.K tt)) (ha : PE X a (lfE X.K ta)) (hb : PE X b (lfE X.K tb)) : PE X (.IfExp c a b pos) (lfE X.K fun σ h Q => tt σ h fun r h1 => br r (ta σ h1 Q) (tb σ h1 Q)) :=
  pe_imp (pe_ifExp ht ha hb) fun s H Q ⟨loc, σ, h, Q', rs, rh, w, k⟩ => ⟨loc, σ, h, _, rs, rh, w, fun r h1 H1 loc1 q1 x1 rh1 => by
    rcases br_e q1 with ⟨rfl, q1'⟩ | ⟨rfl, q1'⟩
    · exact L2.iteT ⟨loc1, σ, h1, Q', rs.mono x1, rh1, q1', k.mono x1⟩
    · exact L2.iteF ⟨loc1, σ, h1, Q', rs.mono x1, rh1, q1', k.mono x1⟩⟩
/-! ### tests -/
theorem b_not (ha : PT X a (lfT X.K tt)) : PT X (.UnaryOp .Not a pos) (lfT X.K fun σ h Q => tt σ h fun b h1 => Q (!b) h1) :=
  pt_imp (pt_not ha) fun s H Q ⟨loc, σ, h, Q', rs, rh, w, k⟩ => ⟨loc, σ, h, _, rs, rh, w, fun r h1 H1 loc1 q1 x1 rh1 => k _ _ _ _ q1 x1 rh1⟩
theorem b_and {rest : List Expr} {t2 : TwT} (ha : PT X a (lfT X.K tt)) (hb : PW X (.BoolOp .And (b :: rest) pos) (lfT X.K t2)) : PW X (.BoolOp .And (a :: b :: rest) pos) (lfT X.K fun σ h Q => tt σ h fun r h1 => br r (t2 σ h1 Q) (Q false h1)) :=
  pw_imp (pw_and ha hb) fun s H Q ⟨loc, σ, h, Q', rs, rh, w, k⟩ => ⟨loc, σ, h, _, rs, rh, w, fun r h1 H1 loc1 q1 x1 rh1 => by
    rcases br_e q1 with ⟨rfl, q1'⟩ | ⟨rfl, q1'⟩
    · exact L2.iteT ⟨loc1, σ, h1, Q', rs.mono x1, rh1, q1', k.mono x1⟩
    · exact L2.iteF (k _ _ _ _ q1' x1 rh1)⟩
theorem b_or {rest : List Expr} {t2 : TwT} (ha : PT X a (lfT X.K tt)) (hb : PW X (.BoolOp .Or (b :: rest) pos) (lfT X.K t2)) : PW X (.BoolOp .Or (a :: b :: rest) pos) (lfT X.K fun σ h Q => tt σ h fun r h1 => br r (Q true h1) (t2 σ h1 Q)) :=
  pw_imp (pw_or ha hb) fun s H Q ⟨loc, σ, h, Q', rs, rh, w, k⟩ => ⟨loc, σ, h, _, rs, rh, w, fun r h1 H1 loc1 q1 x1 rh1 => by
    rcases br_e q1 with ⟨rfl, q1'⟩ | ⟨rfl, q1'⟩
    · exact L2.iteT (k _ _ _ _ q1' x1 rh1)
    · exact L2.iteF ⟨loc1, σ, h1, Q', rs.mono x1, rh1, q1', k.mono x1⟩⟩
theorem b_val (ha : PE X a (lfE X.K ta)) (he : ∀ whole, isTrue a X.env whole = (do let v ← whole; standAt a.pos; holding [v] (truthy v))) : PT X a (lfT X.K fun σ h Q => ta σ h fun d h1 => truth d h1 fun b => Q b h1) :=
  pt_imp (pt_truth ha he) fun s H Q ⟨loc, σ, h, Q', rs, rh, w, k⟩ => ⟨loc, σ, h, _, rs, rh, w, fun x h1 vx H1 loc1 q1 x1 rh1 r1 => by
    obtain ⟨kk, e, q⟩ := truth_ok rh1 r1 q1
    exact ⟨kk, e, k _ _ _ _ q x1 rh1⟩⟩
/-! ### arguments, displays, calls -/
theorem a_nil : PA X [] (lfA X.K fun _ h Q => Q [] h) := pa_imp pa_nil fun s H Q ⟨loc, σ, h, Q', rs, rh, w, k⟩ => k _ _ _ _ loc w Xt.refl rh RDs.nil
theorem a_cons (he : PE X e (lfE X.K te)) (hs : PA X es (lfA X.K as)) (hst : starEach (e :: es) X.env = (false, eval e X.env) :: starEach es X.env) : PA X (e :: es) (lfA X.K fun σ h Q => te σ h fun x h1 => as σ h1 fun xs h2 => Q (x :: xs) h2) :=
  pa_imp (pa_cons he hs hst) fun s H Q ⟨loc, σ, h, Q', rs, rh, w, k⟩ => ⟨loc, σ, h, _, rs, rh, w, fun x h1 vx H1 loc1 q1 x1 rh1 r1 => ⟨loc1, σ, h1, _, rs.mono x1, rh1, q1, fun y h2 vy H2 loc2 q2 x2 rh2 r2 =>
    k _ _ _ _ loc2 q2 (x1.trans x2) rh2 (RDs.cons (r1.mono x2) r2)⟩⟩
theorem s_tup {k1 : Nat} (hs : PA X es (lfA X.K as)) : PE X (.Tuple es k1 pos) (lfE X.K fun σ h Q => as σ h fun ds h1 => chk (lenOk ds.length) (Q (.tup ds) h1)) :=
  pe_imp (pe_tup hs) fun s H Q ⟨loc, σ, h, Q', rs, rh, w, k⟩ => ⟨loc, σ, h, _, rs, rh, w, fun x h1 vx H1 loc1 q1 x1 rh1 r1 => by
    obtain ⟨c, q1⟩ := chk_e q1
    exact ⟨by rw [r1.length]; exact lenOk_i c, (k.mono x1).tup rh1 q1 r1⟩⟩
theorem s_lst (hs : PA X es (lfA X.K as)) : PE X (.List es pos) (lfE X.K fun σ h Q => as σ h fun ds h1 => chk (lenOk ds.length) (new (.lst ds) h1 Q)) :=
  pe_imp (pe_lst hs) fun s H Q ⟨loc, σ, h, Q', rs, rh, w, k⟩ => ⟨loc, σ, h, _, rs, rh, w, fun x h1 vx H1 loc1 q1 x1 rh1 r1 => by
    obtain ⟨c, q1⟩ := chk_e q1
    exact ⟨by rw [r1.length]; exact lenOk_i c, (k.mono x1).new rh1 q1 r1⟩⟩
theorem s_ix (ha : PE X a (lfE X.K ta)) (hb : PE X b (lfE X.K tb)) (hs : PlainIx b) : PE X (.Subscript a b pos) (lfE X.K fun σ h Q => ta σ h fun x h1 => tb σ h1 fun y h2 => opIx x y h2 Q) :=
  pe_imp (pe_ix op_ix ha hb hs) fun s H Q ⟨loc, σ, h, Q', rs, rh, w, k⟩ => ⟨loc, σ, h, _, rs, rh, w, fun x h1 vx H1 loc1 q1 x1 rh1 r1 => ⟨loc1, σ, h1, _, rs.mono x1, rh1, q1, fun y h2 vy H2 loc2 q2 x2 rh2 r2 =>
    ⟨loc2, h2, x, y, Q', rh2, r1.mono x2, r2, q2, k.mono (x1.trans x2)⟩⟩⟩
theorem s_call {id : Str} {f : Addr} {fd : FuncData} {ps : List Str} {k : Nat} {C : List D → Hh → Kd → Ex → Prop} (F : FnOk X.prog X.w X.K X.mg X.base CX0 k f fd ps (lfP X.K C)) (hr : Room k X.A) (hg : Gl X id) (hm : X.mg id = some (.ref f)) (hk : PySem.W.keepIn X.K (.ref f) = true)
    (hb : Binds X.K fd ps []) (hs : PA X (e :: es) (lfA X.K as)) (hdb : (id == ("__debug__" : Str)) = false) (he : starEach (e :: es) X.env = (false, eval e X.env) :: starEach es X.env) (hpl : (backTo pos (starEach es X.env)).any (·.1) = false) :
    PE X (.Call (.Name id p) (e :: es) [] pos) (lfE X.K fun σ h Q => as σ h fun ds h1 => C ds h1 Q (fun _ _ _ => False)) :=
  pe_imp (pe_call F hr hg hm hk hb .nil pass0 hs hdb he hpl) fun s H Q ⟨loc, σ, h, Q', rs, rh, w, k⟩ => ⟨loc, σ, h, _, rs, rh, w, fun x h1 vx H1 loc1 q1 x1 rh1 r1 =>
    ⟨loc1, x, h1, Q', by rw [List.append_nil]; exact r1, rh1, q1, k.mono x1⟩⟩
theorem s_call0 {id : Str} {f : Addr} {fd : FuncData} {ps : List Str} {k : Nat} {C : List D → Hh → Kd → Ex → Prop} (F : FnOk X.prog X.w X.K X.mg X.base CX0 k f fd ps (lfP X.K C)) (hr : Room k X.A) (hg : Gl X id) (hm : X.mg id = some (.ref f)) (hk : PySem.W.keepIn X.K (.ref f) = true)
    (hb : Binds X.K fd ps []) (hdb : (id == ("__debug__" : Str)) = false) :
    PE X (.Call (.Name id p) [] [] pos) (lfE X.K fun σ h Q => C [] h Q (fun _ _ _ => False)) :=
  pe_imp (pe_call0 F hr hg hm hk hb .nil pass0 hdb) fun s H Q ⟨loc, σ, h, Q', rs, rh, w, k⟩ => ⟨loc, [], h, Q', RDs.nil, rh, w, k⟩
/-! ### slices -/
abbrev TwO := Sg → Hh → (Option Int → Hh → Prop) → Prop
def lfO (K : PySem.W.Frag) (t : TwO) : TO := fun s H Q => ∃ loc σ h Q', RS K loc H σ s ∧ RH K loc H h ∧ t σ h Q' ∧ ∀ o h' H' loc', Q' o h' → Xt K loc H loc' H' → RH K loc' H' h' → Q o H'
theorem o_none : PO X none (lfO X.K fun _ h Q => Q none h) := ⟨fun pins s σ H Q I ⟨loc, σ', h, Q', rs, rh, w, k⟩ => po_none.run pins s σ H Q I (k _ _ _ _ w Xt.refl rh)⟩
theorem o_some (he : PE X e (lfE X.K te)) : PO X (some e) (lfO X.K fun σ h Q => te σ h fun x h1 => (match x with | .int i => Q (some i) h1 | _ => False)) := ⟨fun pins s σ H Q I ⟨loc, σ', h, Q', rs, rh, w, k⟩ =>
  (po_some he).run pins s σ H Q I ⟨loc, σ', h, _, rs, rh, w, fun x h1 vx H1 loc1 q1 x1 rh1 r1 => by
    cases x <;> try exact q1.elim
    cases r1.int_
    exact ⟨_, rfl, k _ _ _ _ q1 x1 rh1⟩⟩⟩
theorem s_sl {lo hi : Option Expr} {p2 : Pos} {tl th : TwO} (he : PE X e (lfE X.K te)) (hl : PO X lo (lfO X.K tl)) (hu : PO X hi (lfO X.K th)) : PE X (.Subscript e (.Slice lo hi none p2) pos) (lfE X.K fun σ h Q => te σ h fun x h1 => tl σ h1 fun l h2 => th σ h2 fun u h3 => opSl x l u h3 Q) :=
  pe_imp (pe_slice op_sl he hl hu) fun s H Q ⟨loc, σ, h, Q', rs, rh, w, k⟩ => ⟨loc, σ, h, _, rs, rh, w, fun x h1 vx H1 loc1 q1 x1 rh1 r1 => ⟨loc1, σ, h1, _, rs.mono x1, rh1, q1, fun l h2 H2 loc2 q2 x2 rh2 => ⟨loc2, σ, h2, _, (rs.mono x1).mono x2, rh2, q2, fun u h3 H3 loc3 q3 x3 rh3 =>
    ⟨loc3, h3, x, Q', rh3, (r1.mono x2).mono x3, q3, k.mono (x1.trans (x2.trans x3))⟩⟩⟩⟩
/-! ### built-ins, methods -/
theorem s_blt (f : Blt) {id : Str} {v : Value} (hc : X.calm = true) (hg : Gl X id) (hid : id = bltStr f) (hm : X.mg id = none) (hs : PA X (e :: es) (lfA X.K as)) (he : starEach (e :: es) X.env = (false, eval e X.env) :: starEach es X.env) (hpl : (backTo pos (starEach es X.env)).any (·.1) = false) :
    PE X (.Call (.Name id p) (e :: es) [] pos) (lfE X.K fun σ h Q => as σ h fun ds h1 => opBlt f ds h1 Q) := by
  have fin : ∀ {s : L2.St} {H : Hp} {Q : VK}, lfE X.K (fun σ h Q => as σ h fun ds h1 => opBlt f ds h1 Q) s H Q → tCB (lfC X.K (opBlt f)) (lfA X.K as) s H Q := fun {s H Q} ⟨loc, σ, h, Q', rs, rh, w, k⟩ => ⟨loc, σ, h, _, rs, rh, w, fun x h1 vx H1 loc1 q1 x1 rh1 r1 => ⟨loc1, h1, x, Q', rh1, r1, q1, k.mono x1⟩⟩
  subst hid
  cases f
  · exact pe_imp (pe_callB (call_blt hc .len) hg hm (by decide +kernel) hs (by decide +kernel) (by decide +kernel) he hpl) fun _ _ _ => fin
  · exact pe_imp (pe_callTy (call_blt hc .int) hg hm (by decide +kernel) hs (by decide +kernel) (by decide +kernel) he hpl) fun _ _ _ => fin
  · exact pe_imp (pe_callB (call_blt hc .abs) hg hm (by decide +kernel) hs (by decide +kernel) (by decide +kernel) he hpl) fun _ _ _ => fin
  · exact pe_imp (pe_callB (call_blt hc .max) hg hm (by decide +kernel) hs (by decide +kernel) (by decide +kernel) he hpl) fun _ _ _ => fin
  · exact pe_imp (pe_callB (call_blt hc .min) hg hm (by decide +kernel) hs (by decide +kernel) (by decide +kernel) he hpl) fun _ _ _ => fin
  · exact pe_imp (pe_callTy (call_blt hc .tuple) hg hm (by decide +kernel) hs (by decide +kernel) (by decide +kernel) he hpl) fun _ _ _ => fin
  · exact pe_imp (pe_callTy (call_blt hc .list) hg hm (by decide +kernel) hs (by decide +kernel) (by decide +kernel) he hpl) fun _ _ _ => fin
  · exact pe_imp (pe_callB (call_blt hc .sum) hg hm (by decide +kernel) hs (by decide +kernel) (by decide +kernel) he hpl) fun _ _ _ => fin
theorem s_isi (u : Tyn) {ty : Expr} (hg : Gl X "isinstance") (hm : X.mg "isinstance" = none) (ha : PE X a (lfE X.K ta)) (ht : PE X ty (tC (.ty (tynStr u)))) (hs : PA X [a, ty] (tCons (lfE X.K ta) (tCons (tC (.ty (tynStr u))) tNil)))
    (he : starEach [a, ty] X.env = (false, eval a X.env) :: starEach [ty] X.env) (hpl : (backTo pos (starEach [ty] X.env)).any (·.1) = false) :
    PE X (.Call (.Name "isinstance" p) [a, ty] [] pos) (lfE X.K fun σ h Q => ta σ h fun x h1 => opIsi x [u] h1 Q) :=
  pe_imp (pe_callB (call_isi1 u) hg hm (by decide +kernel) hs (by decide +kernel) (by decide +kernel) he hpl) fun s H Q ⟨loc, σ, h, Q', rs, rh, w, k⟩ => ⟨loc, σ, h, _, rs, rh, w, fun x h1 vx H1 loc1 q1 x1 rh1 r1 =>
    ⟨vx, rfl, loc1, h1, x, Q', rh1, r1, q1, k.mono x1⟩⟩
def mthT (_ : Mth) : String := "list"
theorem rcv_ok {K : PySem.W.Frag} {loc : List Addr} {H : Hp} {h : Hh} {m : Mth} {x : D} {v : V} {P : Prop} (rh : RH K loc H h) (r : RD K loc H x v) (e : rcv m x h P) : tyV K (mthT m) v H ∧ P := by
  cases x <;> try exact e.elim
  obtain ⟨ys, hn, e⟩ := rdL_e (show rdL h _ _ from e)
  obtain ⟨a, vs, rfl, la, ha, q⟩ := rh.lst hn r
  exact ⟨.inl ⟨rfl, _, SqL.of ha⟩, e⟩
theorem s_meth (m : Mth) {nm : Str} {cpos : Pos} (hn : nm = mthStr m) (ha : PE X a (lfE X.K ta)) (hs : PA X (e :: es) (lfA X.K as)) (hbase : attributeBase a nm X.env (eval a X.env) = eval a X.env)
    (hfew : ((backTo cpos (starEach (e :: es) X.env)).all (fun x => !x.1) && (backToKw cpos (keywordEach [] X.env)).all (fun x => x.1.isSome)
      && decide ((e :: es).length + ([] : List Keyword).length + (if ([] : List Keyword).isEmpty then 0 else 1) < 30)) = true)
    (hline : (apos.endLine == cpos.line) = true) (he : starEach (e :: es) X.env = (false, eval e X.env) :: starEach es X.env) (hpl : (backTo cpos (starEach es X.env)).any (·.1) = false) :
    PE X (.Call (.Attribute a nm apos) (e :: es) [] cpos) (lfE X.K fun σ h Q => ta σ h fun x h1 => rcv m x h1 (as σ h1 fun ds h2 => opMeth m x ds h2 Q)) := by
  have fin : ∀ {s : L2.St} {H : Hp} {Q : VK}, lfE X.K (fun σ h Q => ta σ h fun x h1 => rcv m x h1 (as σ h1 fun ds h2 => opMeth m x ds h2 Q)) s H Q → tBM X.K (mthT m) (lfM X.K (opMeth m)) (lfE X.K ta) (lfA X.K as) s H Q :=
    fun {s H Q} ⟨loc, σ, h, Q', rs, rh, w, k⟩ => ⟨loc, σ, h, _, rs, rh, w, fun x h1 vx H1 loc1 q1 x1 rh1 r1 => by
      obtain ⟨c, q1⟩ := rcv_ok rh1 r1 q1
      exact ⟨c, loc1, σ, h1, _, rs.mono x1, rh1, q1, fun y h2 vy H2 loc2 q2 x2 rh2 r2 => ⟨loc2, h2, x, y, Q', rh2, r1.mono x2, r2, q2, k.mono (x1.trans x2)⟩⟩⟩
  subst hn
  cases m
  · exact pe_imp (pe_bm PySem.F.plainAttrs_list PySem.F.slot_list_append PySem.F.type_list_append (meth_ok .append) ha hs hbase hfew hline he hpl) fun _ _ _ => fin
  · exact pe_imp (pe_bm PySem.F.plainAttrs_list PySem.F.slot_list_pop PySem.F.type_list_pop (meth_ok .pop) ha hs hbase hfew hline he hpl) fun _ _ _ => fin
  · exact pe_imp (pe_bm PySem.F.plainAttrs_list PySem.F.slot_list_pop PySem.F.type_list_pop (meth_ok .popAt) ha hs hbase hfew hline he hpl) fun _ _ _ => fin
  · exact pe_imp (pe_bm PySem.F.plainAttrs_list PySem.F.slot_list_extend PySem.F.type_list_extend (meth_ok .extend) ha hs hbase hfew hline he hpl) fun _ _ _ => fin
theorem s_meth0 (m : Mth) {nm : Str} {cpos : Pos} (hn : nm = mthStr m) (ha : PE X a (lfE X.K ta)) (hbase : attributeBase a nm X.env (eval a X.env) = eval a X.env) (hline : (apos.endLine == cpos.line) = true) :
    PE X (.Call (.Attribute a nm apos) [] [] cpos) (lfE X.K fun σ h Q => ta σ h fun x h1 => rcv m x h1 (opMeth m x [] h1 Q)) := by
  have fin : ∀ {s : L2.St} {H : Hp} {Q : VK}, lfE X.K (fun σ h Q => ta σ h fun x h1 => rcv m x h1 (opMeth m x [] h1 Q)) s H Q → tBM0 X.K (mthT m) (lfM X.K (opMeth m)) (lfE X.K ta) s H Q :=
    fun {s H Q} ⟨loc, σ, h, Q', rs, rh, w, k⟩ => ⟨loc, σ, h, _, rs, rh, w, fun x h1 vx H1 loc1 q1 x1 rh1 r1 => by
      obtain ⟨c, q1⟩ := rcv_ok rh1 r1 q1
      exact ⟨c, loc1, h1, x, [], Q', rh1, r1, RDs.nil, q1, k.mono x1⟩⟩
  subst hn
  cases m
  · exact pe_imp (pe_bm0 PySem.F.plainAttrs_list PySem.F.slot_list_append PySem.F.type_list_append (meth_ok .append) ha hbase hline) fun _ _ _ => fin
  · exact pe_imp (pe_bm0 PySem.F.plainAttrs_list PySem.F.slot_list_pop PySem.F.type_list_pop (meth_ok .pop) ha hbase hline) fun _ _ _ => fin
  · exact pe_imp (pe_bm0 PySem.F.plainAttrs_list PySem.F.slot_list_pop PySem.F.type_list_pop (meth_ok .popAt) ha hbase hline) fun _ _ _ => fin
  · exact pe_imp (pe_bm0 PySem.F.plainAttrs_list PySem.F.slot_list_extend PySem.F.type_list_extend (meth_ok .extend) ha hbase hline) fun _ _ _ => fin
/-! ### targets -/
theorem puts_ok {K : PySem.W.Frag} {loc : List Addr} {H : Hp} : ∀ {is : List Nat} {ds : List D} {vs : List V} {σ : Sg} {s : L2.St} {Q : Sg → Prop}, RDs K loc H ds vs → RS K loc H σ s → puts is ds σ Q → is.length = vs.length ∧ ∃ σ', RS K loc H σ' ((is.zip vs).foldl (fun s p => s.set p.1 (some p.2)) s) ∧ Q σ'
  | [], [], vs, σ, s, Q, r, rs, w => by
    rw [RDs] at r
    subst r
    exact ⟨rfl, σ, rs, w⟩
  | i :: is, d :: ds, vs, σ, s, Q, r, rs, w => by
    rw [RDs] at r
    obtain ⟨v, t, rfl, r1, r2⟩ := r
    obtain ⟨hl, σ', rs', q⟩ := puts_ok (is := is) r2 (rs.set i r1) w
    exact ⟨by simp [hl], σ', rs', q⟩
  | [], _ :: _, _, _, _, _, _, _, w => w.elim
  | _ :: _, [], _, _, _, _, _, _, w => w.elim
theorem g_name {i : Nat} {tg : Expr} (hg : PG X tg (gName i)) : PG X tg (lfG X.K fun d σ h Q => Q (σ.set i (some d)) h) :=
  pg_imp hg fun v s H Q ⟨loc, d, σ, h, Q', rd, rs, rh, w, k⟩ => k _ _ _ _ loc w Xt.refl rh (rs.set i rd)
/-- the names' targets, one by one -/
def gNames : List Nat → TGs
  | [] => gNil
  | i :: is => gCons (gName i) (gNames is)
theorem gNames_ok : ∀ {is : List Nat} {vs : List V} {s : L2.St} {H : Hp} {Q : L2.St → Hp → Prop}, is.length = vs.length → Q ((is.zip vs).foldl (fun s p => s.set p.1 (some p.2)) s) H → gNames is vs s H Q
  | [], [], _, _, _, _, q => ⟨rfl, q⟩
  | i :: is, v :: vs, s, H, Q, e, q => ⟨v, vs, rfl, gNames_ok (by simpa using e) q⟩
  | [], _ :: _, _, _, _, e, _ => by cases e
  | _ :: _, [], _, _, _, e, _ => by cases e
theorem g_tup {is : List Nat} {ts : List Expr} {k1 : Nat} (hc : X.calm = true) (hg : PGs X ts (gNames is)) (hn : (assignEach ts X.env).length = is.length) (hst : (assignEach ts X.env).findIdx? (·.1) = none) :
    PG X (.Tuple ts k1 pos) (lfG X.K fun d σ h Q => (match d with
      | .tup ds => puts is ds σ fun σ1 => Q σ1 h
      | _ => False)) :=
  pg_imp (pg_tup hc hg hn hst) fun v s H Q ⟨loc, d, σ, h, Q', rd, rs, rh, w, k⟩ => by
    cases d <;> try exact w.elim
    obtain ⟨a, vs, rfl, sq, r⟩ := rd.tup_
    obtain ⟨hl, σ', rs', q⟩ := puts_ok r rs w
    exact ⟨a, vs, rfl, sq, hl.symm, gNames_ok hl (k _ _ _ _ loc q Xt.refl rh rs')⟩
theorem g_sub {o i : Expr} (ho : PE X o (lfE X.K ta)) (hi : PE X i (lfE X.K tb)) (hass : ∀ v, assign (.Subscript o i pos) X.env v = (do
      let ov ← holding [v] (eval o X.env)
      let iv ← holding [v, ov] (eval i X.env)
      standAt pos
      holding [v, ov, iv] (setItem ov iv v)
      release [v, ov, iv] [])) : PG X (.Subscript o i pos) (lfG X.K fun d σ h Q => ta σ h fun o h1 => tb σ h1 fun k h2 => opSet o k d h2 fun h3 => Q σ h3) :=
  pg_imp (pg_sub ho hi set_ok hass) fun v s H Q ⟨loc, d, σ, h, Q', rd, rs, rh, w, k⟩ => ⟨loc, σ, h, _, rs, rh, w, fun x h1 vx H1 loc1 q1 x1 rh1 r1 => ⟨loc1, σ, h1, _, rs.mono x1, rh1, q1, fun y h2 vy H2 loc2 q2 x2 rh2 r2 =>
    ⟨loc2, h2, x, y, d, _, rh2, r1.mono x2, r2, (rd.mono x1).mono x2, q2, fun h3 H3 q3 x3 rh3 => k _ _ _ _ loc2 q3 (x1.trans (x2.trans x3)) rh3 (((rs.mono x1).mono x2).mono x3)⟩⟩⟩
theorem wipe_at (s : L2.St) (j : Nat) : ∀ vs : List Nat, (L2.wipe s vs)[j]? = if j ∈ vs then (if j < s.length then some none else none) else s[j]?
  | [] => by simp [L2.wipe]
  | v :: vs => by
    have ih := wipe_at s j vs
    show ((L2.wipe s vs).set v none)[j]? = _
    rw [List.getElem?_set, L2.wipe_length]
    by_cases hv : v = j
    · subst hv
      simp
    · rw [if_neg hv, ih]
      have e : (j ∈ v :: vs) = (j ∈ vs) := by
        simp only [List.mem_cons, eq_iff_iff]
        exact ⟨fun h => h.resolve_left fun z => hv z.symm, .inr⟩
      simp only [e]
theorem wipe_set {s : L2.St} {i : Nat} {v : Option V} {vs : List Nat} (hi : i ∈ vs) : L2.wipe (s.set i v) vs = L2.wipe s vs := by
  refine List.ext_getElem? fun j => ?_
  rw [wipe_at, wipe_at]
  by_cases hj : j ∈ vs
  · rw [if_pos hj, if_pos hj, List.length_set]
  · rw [if_neg hj, if_neg hj]
    have : i ≠ j := fun e => hj (e ▸ hi)
    rw [List.getElem?_set_ne this]
theorem wipe_sets {vs : List Nat} : ∀ {is : List Nat} {ws : List V} {s : L2.St}, (∀ i ∈ is, i ∈ vs) → L2.wipe ((is.zip ws).foldl (fun s p => s.set p.1 (some p.2)) s) vs = L2.wipe s vs
  | [], _, _, _ => rfl
  | _ :: _, [], _, _ => rfl
  | i :: is, w :: ws, s, h => by
    show L2.wipe ((is.zip ws).foldl _ (s.set i (some w))) vs = _
    rw [wipe_sets fun j hj => h j (List.mem_cons_of_mem _ hj), wipe_set (h i List.mem_cons_self)]
theorem own_name {K : PySem.W.Frag} {i : Nat} {vs : List Nat} (hi : i ∈ vs) : OwnG K (fun d σ h Q => Q (σ.set i (some d)) h) (gName i) vs := fun loc d v σ s h H Q R rd rs rh w k =>
  k _ _ (wipe_set hi) (rs.set i rd) w
theorem own_tup {K : PySem.W.Frag} {is vs : List Nat} (hi : ∀ i ∈ is, i ∈ vs) : OwnG K (fun d σ h Q => (match d with
      | .tup ds => puts is ds σ fun σ1 => Q σ1 h
      | _ => False)) (gTup K is.length (gNames is)) vs := fun loc d v σ s h H Q R rd rs rh w k => by
  cases d <;> try exact w.elim
  obtain ⟨a, ws, rfl, sq, r⟩ := rd.tup_
  obtain ⟨hl, σ', rs', q⟩ := puts_ok r rs w
  exact ⟨a, ws, rfl, sq, hl.symm, gNames_ok hl (k _ _ (wipe_sets hi) rs' q)⟩
/-! ### what is walked -/
theorem i_seq {tg : Expr} (he : PE X e (lfE X.K te)) : PI X tg e (lfI X.K fun σ h Q => te σ h fun d h1 => walkOf h1 d fun w => Q w h1) :=
  pi_imp (pi_seq he) fun s H R ⟨loc, σ, h, Q', rs, rh, w, k⟩ => ⟨loc, σ, h, _, rs, rh, w, fun x h1 vx H1 loc1 q1 x1 rh1 r1 => by
    cases x <;> try exact q1.elim
    · obtain ⟨a, vs, rfl, sq, r⟩ := r1.tup_
      exact ⟨a, rfl, .inr ⟨⟨vs, sq⟩, k _ _ _ _ loc1 q1 x1 rh1 (snap_tup sq r)⟩⟩
    · rename_i n
      obtain ⟨o, hn, q1⟩ := rdO_e (show rdO h1 n _ from q1)
      cases o with
      | lst ys =>
        obtain ⟨a, vs, rfl, la, ha, q⟩ := rh1.lst hn r1
        exact ⟨a, rfl, .inl ⟨⟨vs, SqL.of ha⟩, k _ _ _ _ loc1 q1 x1 rh1 ⟨a, rfl, la⟩⟩⟩
      | frz ys =>
        obtain ⟨a, rfl, la⟩ := r1.ref_
        obtain ⟨b, lb, vs, fz, r⟩ := rh1.ob n _ hn
        cases la.symm.trans lb
        exact ⟨a, rfl, .inl ⟨⟨vs, fz.sq⟩, k _ _ _ _ loc1 q1 x1 rh1 (snap_frz fz r)⟩⟩
      | dic _ => exact q1.elim⟩
theorem i_rng1 {tg : Expr} (hg : Gl X "range") (hm : X.mg "range" = none) (ha : PE X a (lfE X.K ta)) (hs : starEach [a] X.env = [(false, eval a X.env)]) : PI X tg (.Call (.Name "range" p) [a] [] pos) (lfI X.K fun σ h Q => ta σ h fun d h1 => (match d with
    | .int n => chk (decide (n.natAbs < 2 ^ 62)) (Q (.snap (range n.toNat 0 0)) h1)
    | _ => False)) :=
  pi_imp (pi_range1 hg hm (pa_cons ha pa_nil hs) hs) fun s H R ⟨loc, σ, h, Q', rs, rh, w, k⟩ => ⟨loc, σ, h, _, rs, rh, w, fun x h1 vx H1 loc1 q1 x1 rh1 r1 => by
    cases x <;> try exact q1.elim
    cases r1.int_
    obtain ⟨c, q1⟩ := chk_e q1
    have c' := of_decide_eq_true c
    exact ⟨_, rfl, by omega, by omega, k _ _ _ _ loc1 q1 x1 rh1 snap_rng⟩⟩
theorem i_rng2 {tg : Expr} (hg : Gl X "range") (hm : X.mg "range" = none) (ha : PE X a (lfE X.K ta)) (hb : PE X b (lfE X.K tb)) (hs : starEach [a, b] X.env = [(false, eval a X.env), (false, eval b X.env)]) (hs2 : starEach [b] X.env = [(false, eval b X.env)]) :
    PI X tg (.Call (.Name "range" p) [a, b] [] pos) (lfI X.K fun σ h Q => ta σ h fun d h1 => tb σ h1 fun e h2 => (match d, e with
    | .int lo, .int hi => chk (decide (lo.natAbs < 2 ^ 62) && decide (hi.natAbs < 2 ^ 62)) (Q (.snap (range (hi - lo).toNat lo 0)) h2)
    | _, _ => False)) :=
  pi_imp (pi_range2 hg hm (pa_cons ha (pa_cons hb pa_nil hs2) (by rw [hs, hs2])) hs hs2) fun s H R ⟨loc, σ, h, Q', rs, rh, w, k⟩ => ⟨loc, σ, h, _, rs, rh, w, fun x h1 vx H1 loc1 q1 x1 rh1 r1 => ⟨loc1, σ, h1, _, rs.mono x1, rh1, q1, fun y h2 vy H2 loc2 q2 x2 rh2 r2 => by
    cases x <;> cases y <;> try exact q2.elim
    cases r1.int_
    cases r2.int_
    obtain ⟨c, q2⟩ := chk_e q2
    obtain ⟨c1, c2⟩ := Bool.and_eq_true_iff.mp c
    have c1' := of_decide_eq_true c1
    have c2' := of_decide_eq_true c2
    exact ⟨_, _, rfl, ⟨by omega, by omega, by omega, by omega⟩, k _ _ _ _ loc2 q2 (x1.trans x2) rh2 snap_rng⟩⟩⟩
/-! ### statements -/
variable {st : Stmt} {bl : List Stmt} {t u : TwS} {tg : Expr} {wg : TwG} {wi : TwI}
theorem t_expr (he : PE X e (lfE X.K te)) (hs : swapsWith e none pos.line X.env = pure false) : PS X (.Expr e pos) (lfS X.K fun R σ h => te σ h fun _ h1 => R.nx σ h1) :=
  ps_imp (ps_expr he hs) fun E s H ⟨loc, σ, h, R, rs, rh, w, k⟩ => ⟨loc, σ, h, _, rs, rh, w, fun x h1 vx H1 loc1 q1 x1 rh1 r1 => k.nx _ _ _ _ loc1 q1 x1 rh1 (rs.mono x1)⟩
theorem asg_ok {E : Ends} {s : L2.St} {H : Hp} (w : lfS X.K (fun R σ h => te σ h fun d h1 => wg d σ h1 R.nx) E s H) : tAsg (lfE X.K te) (lfG X.K wg) E s H := by
  obtain ⟨loc, σ, h, R, rs, rh, w, k⟩ := w
  exact ⟨loc, σ, h, _, rs, rh, w, fun x h1 vx H1 loc1 q1 x1 rh1 r1 => ⟨loc1, x, σ, h1, R.nx, r1, rs.mono x1, rh1, q1, k.nx.mono x1⟩⟩
theorem t_asg (he : PE X e (lfE X.K te)) (hg : PG X tg (lfG X.K wg)) (hs : swapsWithSole [tg] e pos.line X.env = pure false) (hw : swappedStores [tg] e X.env = pure none) (h1 : (assignEach [tg] X.env).map (·.2) = [assign tg X.env]) :
    PS X (.Assign [tg] e pos) (lfS X.K fun R σ h => te σ h fun d h1 => wg d σ h1 R.nx) := ps_imp (ps_asg he hg hs hw h1) fun E s H w => asg_ok w
theorem t_set {i : Nat} {y : Str} {py : Pos} (hN : X.N.Nodup) (hi : X.N[i]? = some y) (hx : Loc X.env.scope y) (he : PE X e (lfE X.K te)) (hs : swapsWith e (some (.Name y py)) pos.line X.env = pure false) (hf : X.fn y = true ∨ X.env.scope.names.lookup y = some .local) :
    PS X (.Assign [.Name y py] e pos) (lfS X.K fun R σ h => te σ h fun d h1 => R.nx (σ.set i (some d)) h1) :=
  ps_imp (ps_set hN hi hx he hs hf) fun E s H ⟨loc, σ, h, R, rs, rh, w, k⟩ => ⟨loc, σ, h, _, rs, rh, w, fun x h1 vx H1 loc1 q1 x1 rh1 r1 => k.nx _ _ _ _ loc1 q1 x1 rh1 ((rs.mono x1).set i r1)⟩
theorem t_par {i j : Nat} {x y : Str} {a b : Expr} {px py pt : Pos} {kt k2 pt2} (hc : X.calm = true) (hN : X.N.Nodup) (hi : X.N[i]? = some x) (hj : X.N[j]? = some y) (hij : i ≠ j)
    (hx : X.env.scope.names.lookup x = some .local) (hy : X.env.scope.names.lookup y = some .local) (ha : PA X [a, b] (lfA X.K as))
    (hw : swappedStores [.Tuple [.Name x px, .Name y py] kt pt] (.Tuple [a, b] k2 pt2) X.env = pure (some [x, y]))
    (hs : swapsWithSole [.Tuple [.Name x px, .Name y py] kt pt] (.Tuple [a, b] k2 pt2) pos.line X.env = pure false) :
    PS X (.Assign [.Tuple [.Name x px, .Name y py] kt pt] (.Tuple [a, b] k2 pt2) pos) (lfS X.K fun R σ h => as σ h fun ds h1 => chk (lenOk ds.length) (puts [i, j] ds σ fun σ1 => R.nx σ1 h1)) :=
  ps_imp (ps_par hc hN hi hj hij hx hy ha hw hs) fun E s H ⟨loc, σ, h, R, rs, rh, w, k⟩ => ⟨loc, σ, h, _, rs, rh, w, fun ds h1 vs H1 loc1 q1 x1 rh1 r1 => by
    obtain ⟨c, q1⟩ := chk_e q1
    obtain ⟨hl, σ', rs', q⟩ := puts_ok r1 (rs.mono x1) q1
    match vs, hl with
    | [v, w'], _ => exact ⟨v, w', rfl, k.nx _ _ _ _ loc1 q x1 rh1 rs'⟩⟩
theorem t_aug (op : BOp) {i : Nat} {y : Str} {py : Pos} (hN : X.N.Nodup) (hi : X.N[i]? = some y) (hx : Loc X.env.scope y) (he : PE X e (lfE X.K te)) (hf : X.fn y = true ∨ X.env.scope.names.lookup y = some .local) :
    PS X (.AugAssign (.Name y py) (bopOf op) e pos) (lfS X.K fun R σ h => look σ i fun d => te σ h fun y h1 => opAug op d y h1 fun z h2 => R.nx (σ.set i (some z)) h2) :=
  ps_imp (ps_aug hN hi hx he (op_aug op) hf) fun E s H ⟨loc, σ, h, R, rs, rh, w, k⟩ => by
    have w' : look σ i fun d => te σ h fun y h1 => opAug op d y h1 fun z h2 => R.nx (σ.set i (some z)) h2 := w
    unfold look at w'
    split at w'
    · rename_i d hd
      obtain ⟨v, hv, r⟩ := rs.2 i d hd
      exact ⟨v, hv, loc, σ, h, _, rs, rh, w', fun x h1 vx H1 loc1 q1 x1 rh1 r1 => ⟨loc1, h1, d, x, _, rh1, r.mono x1, r1, q1, fun z h2 vz H2 loc2 q2 x2 rh2 r2 => k.nx _ _ _ _ loc2 q2 (x1.trans x2) rh2 (((rs.mono x1).mono x2).set i r2)⟩⟩
    · exact w'.elim
theorem t_ret (he : PE X e (lfE X.K te)) : PS X (.Return (some e) pos) (lfS X.K fun R σ h => te σ h R.rt) :=
  ps_imp (ps_ret he) fun E s H ⟨loc, σ, h, R, rs, rh, w, k⟩ => ⟨loc, σ, h, _, rs, rh, w, k.rt⟩
theorem t_retN : PS X (.Return none pos) (lfS X.K fun R _ h => R.rt .non h) := ps_imp ps_retN fun E s H ⟨loc, σ, h, R, rs, rh, w, k⟩ => k.rt.here rh w rd_non
theorem t_pass : PS X (.Pass pos) (lfS X.K fun R σ h => R.nx σ h) := ps_imp ps_pass fun E s H ⟨loc, σ, h, R, rs, rh, w, k⟩ => k.nx _ _ _ _ loc w Xt.refl rh rs
theorem t_brk : PS X (.Break pos) (lfS X.K fun R σ h => R.bk σ h) := ps_imp ps_break fun E s H ⟨loc, σ, h, R, rs, rh, w, k⟩ => k.bk _ _ _ _ loc w Xt.refl rh rs
theorem t_cnt : PS X (.Continue pos) (lfS X.K fun R σ h => R.ct σ h) := ps_imp ps_continue fun E s H ⟨loc, σ, h, R, rs, rh, w, k⟩ => k.ct _ _ _ _ loc w Xt.refl rh rs
theorem t_ife {sa sb : List Stmt} (ht : PT X c (lfT X.K tt)) (ha : PSs X sa (lfS X.K t)) (hb : PSs X sb (lfS X.K u)) : PS X (.If c sa sb pos) (lfS X.K fun R σ h => tt σ h fun r h1 => br r (t R σ h1) (u R σ h1)) :=
  ps_imp (ps_if ht ha hb) fun E s H ⟨loc, σ, h, R, rs, rh, w, k⟩ => ⟨loc, σ, h, _, rs, rh, w, fun r h1 H1 loc1 q1 x1 rh1 => by
    rcases br_e q1 with ⟨rfl, q1'⟩ | ⟨rfl, q1'⟩
    · exact L2.iteT ⟨loc1, σ, h1, R, rs.mono x1, rh1, q1', k.mono x1⟩
    · exact L2.iteF ⟨loc1, σ, h1, R, rs.mono x1, rh1, q1', k.mono x1⟩⟩
theorem t_whl {sb : List Stmt} (hp : PassesOwn (model X.prog X.w) X.A X.env X.xe) (ht : PT X c (lfT X.K tt)) (hb : PSs X sb (lfS X.K u)) : PS X (.While c sb [] pos) (lfS X.K fun R σ h => loopW tt u R fuel σ h) :=
  ps_imp (ps_while hp ht hb) fun E s H w => while_ok w
theorem t_for {sb : List Stmt} (hp : PassesOwn (model X.prog X.w) X.A X.env X.xe) (hc : X.calm = true) (hi : PI X tg e (lfI X.K wi)) (hg : PG X tg (lfG X.K wg)) (hb : PSs X sb (lfS X.K u)) (hs : ∀ x, foldedSetIterable e X.env x = pure x) :
    PS X (.For tg e sb [] pos) (lfS X.K (wFor wi wg u)) := ps_imp (ps_for hp hc hi hg hb hs) fun E s H w => for_ok w
theorem b_nil : PSs X [] (lfS X.K fun R σ h => R.nx σ h) := pss_imp pss_nil fun E s H ⟨loc, σ, h, R, rs, rh, w, k⟩ => k.nx _ _ _ _ loc w Xt.refl rh rs
theorem b_cons (h1 : PS X st (lfS X.K t)) (h2 : PSs X bl (lfS X.K u)) : PSs X (st :: bl) (lfS X.K fun R σ h => t { R with nx := u R } σ h) :=
  pss_imp (pss_cons h1 h2) fun E s H ⟨loc, σ, h, R, rs, rh, w, k⟩ => ⟨loc, σ, h, _, rs, rh, w, ⟨fun σ' h' s' H' loc' q x rh' rs' => ⟨loc', σ', h', R, rs', rh', q, k.mono x⟩, k.rt, k.bk, k.ct⟩⟩
end
end Mi

set_option Elab.async false
set_option linter.all false
set_option maxRecDepth 100000
set_option maxHeartbeats 1000000
/-! Mi: a look that holds a text of the program beside the words of Mi, and what follows where they agree. -/
namespace Mi
open PySem PySem.Spec PyProof.Rows L2

/-! ### the look -/
def isK (sc : Scope) (x : Str) (k : NameKind) : Bool := decide (sc.names.lookup x = some k)
def visB (sc : Scope) (x : Str) : Bool := isK sc x .local || (isK sc x .cell || isK sc x .free)
def glB (sc : Scope) (x : Str) : Bool := isK sc x .globalImplicit
def locB (d : Bool) (sc : Scope) (x : Str) : Bool := isK sc x .local || (d && isK sc x .cell)
def nmB (x : Str) : Bool := !(x == ("__debug__" : Str)) && !(x == ("__classdict__" : Str))
def noStar : Expr → Bool
  | .Starred _ _ => false
  | _ => true
def noSet : Expr → Bool
  | .Set _ _ _ => false
  | _ => true
def noSlice : Expr → Bool
  | .Slice _ _ _ _ => false
  | _ => true
def noComp : Expr → Bool
  | .ListComp _ _ _ _ => false
  | .SetComp _ _ _ _ => false
  | .DictComp _ _ _ _ _ => false
  | _ => true
/-- an expression of the plain kinds -/
def plainE (e : Expr) : Bool := noStar e && (noSet e && noSlice e)
def tyName : Tyn → Str
  | .int => "int" | .bool => "bool" | .str => "str" | .tuple => "tuple" | .list => "list"
def relB (scope sc : Scope) : Scope := relS scope sc
def baseB : Expr → Bool
  | .Call _ _ _ _ => false
  | _ => true
def chkNs (N : List Str) (sc : Scope) (d : Bool) : List Nat → List Expr → Bool
  | [], es => (match es with | [] => true | _ => false)
  | i :: is, es => (match es with | .Name x _ :: ts => decide (N[i]? = some x) && (locB d sc x && chkNs N sc d is ts) | _ => false)
section
variable (fn gn : List Str)
mutual
def chkE (N : List Str) (sc : Scope) (d : Bool) : ME → Expr → Bool
  | .non, e => (match e with | .Constant .none _ _ => true | _ => false)
  | .bl b, e => (match e with | .Constant (.bool c) _ _ => decide (b = c) | _ => false)
  | .int i, e => (match e with | .Constant (.int j) _ _ => decide (i = j) | _ => false)
  | .str x, e => (match e with | .Constant (.str y) _ _ => decide (x = y) | _ => false)
  | .var i, e => (match e with | .Name x _ => decide (N[i]? = some x) && (visB sc x && nmB x) | _ => false)
  | .gl i, e => (match e with | .Name x _ => decide (gn[i]? = some x) && (glB sc x && nmB x) | _ => false)
  | .bin op a b, e => (match e with | .BinOp ea o eb _ => decide (o = bopOf op) && (chkE N sc d a ea && chkE N sc d b eb) | _ => false)
  | .neg a, e => (match e with | .UnaryOp .USub ea _ => chkE N sc d a ea | _ => false)
  | .not a, e => (match e with | .UnaryOp .Not ea _ => chkE N sc d a ea | _ => false)
  | .cmp op a b, e => (match e with | .Compare ea [o] [eb] _ => decide (o = copOf op) && (chkE N sc d a ea && chkE N sc d b eb) | _ => false)
  | .chain op op' a b c, e => (match e with | .Compare ea [o, o'] [eb, ec] _ => decide (o = copOf op) && (decide (o' = copOf op') && (chkE N sc d a ea && (chkE N sc d b eb && chkE N sc d c ec))) | _ => false)
  | .and a b, e => (match e with
    | .BoolOp .And [ea, eb] _ => chkE N sc d a ea && chkE N sc d b eb
    | .BoolOp .And (ea :: eb :: ec :: r) pos => chkE N sc d a ea && chkE N sc d b (.BoolOp .And (eb :: ec :: r) pos)
    | _ => false)
  | .or a b, e => (match e with
    | .BoolOp .Or [ea, eb] _ => chkE N sc d a ea && chkE N sc d b eb
    | .BoolOp .Or (ea :: eb :: ec :: r) pos => chkE N sc d a ea && chkE N sc d b (.BoolOp .Or (eb :: ec :: r) pos)
    | _ => false)
  | .ife t a b, e => (match e with | .IfExp et ea eb _ => chkT N sc d t et && (chkE N sc d a ea && chkE N sc d b eb) | _ => false)
  | .call f es, e => (match e with | .Call (.Name x _) es' [] _ => decide (fn[f]? = some x) && (glB sc x && (nmB x && chkEs N sc d es es')) | _ => false)
  | .blt f es, e => (match e with | .Call (.Name x _) (e1 :: es') [] _ => decide (x = bltStr f) && (glB sc x && chkEs N sc d es (e1 :: es')) | _ => false)
  | .isi a ts, e => (match e with
    | .Call (.Name x _) [ea, .Name ty _] [] _ => (match ts with
      | [u] => decide (x = ("isinstance" : Str)) && (glB sc x && (decide (ty = tyName u) && (glB sc ty && chkE N sc d a ea)))
      | _ => false)
    | _ => false)
  | .meth m o es, e => (match e with
    | .Call (.Attribute eo nm apos) es' [] cpos => decide (nm = mthStr m) && (decide (es'.length < 20) && (baseB eo && (decide (apos.endLine = cpos.line) && (chkE N sc d o eo && chkEs N sc d es es'))))
    | _ => false)
  | .ix a i, e => (match e with | .Subscript ea ei _ => chkE N sc d a ea && chkE N sc d i ei | _ => false)
  | .sl a lo hi, e => (match e with | .Subscript ea (.Slice l u none _) _ => chkE N sc d a ea && (chkEo N sc d lo l && chkEo N sc d hi u) | _ => false)
  | .tup es, e => (match e with | .Tuple es' _ _ => chkEs N sc d es es' | _ => false)
  | .lst es, e => (match e with | .List es' _ => chkEs N sc d es es' | _ => false)
  | .lc elt t it c, e => (match e with
    | .ListComp el [⟨tg, iter, ifs, asy⟩] scope _ => decide (asy = 0) && (chkI N sc d it iter && (blkC N sc scope ((slotsOf t).map fun i => (N.getD i Str.empty, i)) && (chkGc N (relS scope sc) t tg && (chkC N (relS scope sc) false c ifs && chkE N (relS scope sc) false elt el))))
    | _ => false)
def chkT (N : List Str) (sc : Scope) (d : Bool) : ME → Expr → Bool
  | .not a, e => (match e with | .UnaryOp .Not ea _ => chkT N sc d a ea | _ => false)
  | .and a b, e => (match e with
    | .BoolOp .And [ea, eb] _ => chkT N sc d a ea && chkT N sc d b eb
    | .BoolOp .And (ea :: eb :: ec :: r) pos => chkT N sc d a ea && chkT N sc d b (.BoolOp .And (eb :: ec :: r) pos)
    | _ => false)
  | .or a b, e => (match e with
    | .BoolOp .Or [ea, eb] _ => chkT N sc d a ea && chkT N sc d b eb
    | .BoolOp .Or (ea :: eb :: ec :: r) pos => chkT N sc d a ea && chkT N sc d b (.BoolOp .Or (eb :: ec :: r) pos)
    | _ => false)
  | .cmp op a b, e => (match e with | .Compare ea [o] [eb] _ => decide (o = copOf op) && (chkE N sc d a ea && chkE N sc d b eb) | _ => false)
  | .chain op op' a b c, e => (match e with | .Compare ea [o, o'] [eb, ec] _ => decide (o = copOf op) && (decide (o' = copOf op') && (chkE N sc d a ea && (chkE N sc d b eb && chkE N sc d c ec))) | _ => false)
  | .bl b, e => (match e with | .Constant (.bool c) _ _ => decide (b = c) | _ => false)
  | .var i, e => (match e with | .Name x _ => decide (N[i]? = some x) && (visB sc x && nmB x) | _ => false)
  | .call f es, e => (match e with | .Call (.Name x _) es' [] _ => decide (fn[f]? = some x) && (glB sc x && (nmB x && chkEs N sc d es es')) | _ => false)
  | .isi a ts, e => (match e with
    | .Call (.Name x _) [ea, .Name ty _] [] _ => (match ts with
      | [u] => decide (x = ("isinstance" : Str)) && (glB sc x && (decide (ty = tyName u) && (glB sc ty && chkE N sc d a ea)))
      | _ => false)
    | _ => false)
  | .ix a i, e => (match e with | .Subscript ea ei _ => chkE N sc d a ea && chkE N sc d i ei | _ => false)
  | _, _ => false
def chkEs (N : List Str) (sc : Scope) (d : Bool) : MEs → List Expr → Bool
  | .nil, es => (match es with | [] => true | _ => false)
  | .cons m ms, es => (match es with | e :: es => chkE N sc d m e && chkEs N sc d ms es | _ => false)
def chkEo (N : List Str) (sc : Scope) (d : Bool) : MEo → Option Expr → Bool
  | .none, o => (match o with | none => true | _ => false)
  | .some m, o => (match o with | some e => chkE N sc d m e | _ => false)
def chkC (N : List Str) (sc : Scope) (d : Bool) : MEo → List Expr → Bool
  | .none, es => (match es with | [] => true | _ => false)
  | .some m, es => (match es with | [e] => chkT N sc d m e | _ => false)
def chkG (N : List Str) (sc : Scope) (d : Bool) : MT → Expr → Bool
  | .name i, e => (match e with | .Name x _ => decide (N[i]? = some x) && locB d sc x | _ => false)
  | .tup is, e => (match e with | .Tuple ts _ _ => chkNs N sc d is ts | _ => false)
  | .sub a i, e => (match e with | .Subscript ea ei _ => chkE N sc d a ea && chkE N sc d i ei | _ => false)
/-- a comprehension's target -/
def chkGc (N : List Str) (sc : Scope) : MT → Expr → Bool
  | .name i, e => (match e with | .Name x _ => decide (N[i]? = some x) && locB false sc x | _ => false)
  | .tup is, e => (match e with | .Tuple ts _ _ => chkNs N sc false is ts | _ => false)
  | .sub _ _, _ => false
def chkI (N : List Str) (sc : Scope) (d : Bool) : MI → Expr → Bool
  | .seq m, e => chkE N sc d m e
  | .rng1 a, e => (match e with | .Call (.Name x _) [ea] [] _ => decide (x = ("range" : Str)) && (glB sc x && chkE N sc d a ea) | _ => false)
  | .rng2 a b, e => (match e with | .Call (.Name x _) [ea, eb] [] _ => decide (x = ("range" : Str)) && (glB sc x && (chkE N sc d a ea && chkE N sc d b eb)) | _ => false)
end
end
/-- may the target be stored so? -/
def asgB (sc : Scope) (tg e : Expr) : Bool := match tg with
  | .Name y py => (match e with
    | .ListComp _ _ scope pos => isK sc y .cell || (isK sc y .local && ((py.line == pos.line) && !(scope.names.any fun (n, k) => n == y && (k == .local || k == .cell))))
    | _ => noComp e)
  | .Tuple ts _ _ => (match e with
    | .Tuple vs _ _ => (match ts, vs with
      | [.Name x px, .Name y py], [_, _] => isK sc x .local && (isK sc y .local && ((py.line == px.line) && (!(x == y) && (!(vs.all (foldedForSure 8)) && !(vs.all (constantsAlone 8))))))
      | _, _ => false)
    | _ => true)
  | .Subscript _ _ _ => true
  | _ => false
section
variable (fn gn : List Str)
mutual
def chkS (N : List Str) (sc : Scope) : MS → Stmt → Bool
  | .expr m, s => (match s with | .Expr e _ => noComp e && chkE fn gn N sc true m e | _ => false)
  | .asg t m, s => (match s with | .Assign [tg] e _ => asgB sc tg e && (chkG fn gn N sc true t tg && chkE fn gn N sc true m e) | _ => false)
  | .aug i op m, s => (match s with | .AugAssign (.Name x _) o e _ => decide (o = bopOf op) && (decide (N[i]? = some x) && (locB true sc x && chkE fn gn N sc true m e)) | _ => false)
  | .ret m, s => (match s with | .Return (some e) _ => chkE fn gn N sc true m e | _ => false)
  | .retN, s => (match s with | .Return none _ => true | _ => false)
  | .pass, s => (match s with | .Pass _ => true | _ => false)
  | .brk, s => (match s with | .Break _ => true | _ => false)
  | .cnt, s => (match s with | .Continue _ => true | _ => false)
  | .ife t a b, s => (match s with | .If e sa sb _ => chkT fn gn N sc true t e && (chkB N sc a sa && chkB N sc b sb) | _ => false)
  | .whl t b, s => (match s with | .While e sb [] _ => chkT fn gn N sc true t e && chkB N sc b sb | _ => false)
  | .forr t it b, s => (match s with | .For tg e sb [] _ => noSet e && (chkG fn gn N sc true t tg && (chkI fn gn N sc true it e && chkB N sc b sb)) | _ => false)
def chkB (N : List Str) (sc : Scope) : MB → List Stmt → Bool
  | .nil, ss => (match ss with | [] => true | _ => false)
  | .cons m ms, ss => (match ss with | s :: ss => chkS N sc m s && chkB N sc ms ss | _ => false)
end
end
example : chkE [] [] [] { kind := .function, names := [], isGenerator := false, isCoroutine := false } true (.bin .add (.int 1) (.int 2)) (.BinOp (.Constant (.int 1) 0 ⟨0,0,0,0⟩) .Add (.Constant (.int 2) 0 ⟨0,0,0,0⟩) ⟨0,0,0,0⟩) = true := rfl
end Mi

set_option Elab.async false
set_option linter.all false
set_option maxRecDepth 100000
set_option maxHeartbeats 4000000
/-! Mi: where the look is passed, the text does what the words say. -/
namespace Mi
open PySem PySem.Spec PyProof.Rows L2

def bltNames : List Str := ["len", "int", "abs", "max", "min", "tuple", "list", "sum", "isinstance", "range", "bool", "str"]
abbrev EX0 : Ex := fun _ _ _ => False
structure Gok (fn gn : List Str) (gls : List D) (tb : List MF) (P : Program) (w : World) (K : PySem.W.Frag) (mg : Str → Option Value) (base : Heap) (k : Nat) : Prop where
  blt : ∀ x ∈ bltNames, mg x = none
  fns : ∀ (f : Nat) (x : Str), fn[f]? = some x → ∃ a fd ps, mg x = some (.ref a) ∧ PySem.W.keepIn K (.ref a) = true ∧ Binds K fd ps [] ∧ FnOk P w K mg base CX0 k a fd ps (lfP K (run gls tb k f))
  cns : ∀ (i : Nat) (x : Str) (d : D), gn[i]? = some x → gls[i]? = some d → ∃ u v, mg x = some u ∧ RelV v u ∧ ∀ loc H, RD K loc H d v
structure Cok (fn gn : List Str) (gls : List D) (tb : List MF) (k : Nat) (N : List Str) (sc : Scope) (d : Bool) (X : Cx) : Prop where
  calm : X.calm = true
  hN : X.N = N
  nd : N.Nodup
  hsc : X.env.scope = sc
  kd : sc.kind = .function
  fnc : d = true → ∀ x, X.fn x = true
  room : Room k X.A
  po : PassesOwn (model X.prog X.w) X.A X.env X.xe
  gb : Gok fn gn gls tb X.prog X.w X.K X.mg X.base k
section
variable {fn gn : List Str} {gls : List D} {tb : List MF} {k : Nat} {N : List Str} {sc : Scope} {d : Bool} {X : Cx}
theorem ba {a b : Bool} (h : (a && b) = true) : a = true ∧ b = true := Bool.and_eq_true_iff.mp h
theorem Cok.gl (c : Cok fn gn gls tb k N sc d X) {x : Str} (h : glB sc x = true) : Gl X x := by
  show X.env.scope.names.lookup x = some .globalImplicit
  rw [c.hsc]
  exact of_decide_eq_true h
theorem Cok.vis (c : Cok fn gn gls tb k N sc d X) {x : Str} (h : visB sc x = true) : Vis X.env.scope x := by
  rw [c.hsc]
  unfold visB at h
  rw [Bool.or_eq_true, Bool.or_eq_true] at h
  rcases h with h | h | h
  · exact .inl (of_decide_eq_true h)
  · exact .inr (.inl (of_decide_eq_true h))
  · exact .inr (.inr (of_decide_eq_true h))
theorem Cok.loc (c : Cok fn gn gls tb k N sc d X) {x : Str} (h : locB d sc x = true) : Loc X.env.scope x ∧ (X.fn x = true ∨ X.env.scope.names.lookup x = some .local) := by
  rw [c.hsc]
  unfold locB at h
  rw [Bool.or_eq_true] at h
  rcases h with h | h
  · exact ⟨.inl (of_decide_eq_true h), .inr (of_decide_eq_true h)⟩
  · obtain ⟨h1, h2⟩ := ba h
    exact ⟨.inr (of_decide_eq_true h2), .inl (c.fnc h1 x)⟩
theorem nm1 {x : Str} (h : nmB x = true) : (x == ("__debug__" : Str)) = false := by
  obtain ⟨h1, _⟩ := ba h
  simpa using h1
theorem nm2 {x : Str} (h : nmB x = true) : (x == ("__classdict__" : Str)) = false := by
  obtain ⟨_, h2⟩ := ba h
  simpa using h2
theorem Cok.at_ (c : Cok fn gn gls tb k N sc d X) {i : Nat} {x : Str} (h : decide (N[i]? = some x) = true) : X.N[i]? = some x := by
  rw [c.hN]
  exact of_decide_eq_true h
/-- an expression that passes the look is of a plain kind -/
theorem plain_of {m : ME} {e : Expr} (h : chkE fn gn N sc d m e = true) : plainE e = true := by
  cases e <;> first | rfl | (cases m <;> exact Bool.noConfusion (show false = true from h))
theorem plain_star {e : Expr} {es : List Expr} (h : plainE e = true) : starEach (e :: es) X.env = (false, eval e X.env) :: starEach es X.env := by
  obtain ⟨h1, _⟩ := ba h
  cases e <;> first | rfl | cases h1
theorem plain_mark {e : Expr} {op : CmpOp} (h : plainE e = true) : behindInMarks op e = false := by
  obtain ⟨_, h2⟩ := ba h
  obtain ⟨h3, _⟩ := ba h2
  cases e <;> first | rfl | cases h3
theorem plain_fold {e : Expr} (h : plainE e = true) : ∀ x, foldedSetIterable e X.env x = pure x := by
  obtain ⟨_, h2⟩ := ba h
  obtain ⟨h3, _⟩ := ba h2
  intro x
  cases e <;> first | rfl | cases h3
theorem plain_ix {e : Expr} (h : plainE e = true) : PlainIx e := by
  obtain ⟨_, h2⟩ := ba h
  obtain ⟨_, h4⟩ := ba h2
  intro o i
  cases e <;> first | rfl | cases h4
/-- arguments: none is starred -/
theorem nostar_of : ∀ {ms : MEs} {es : List Expr}, chkEs fn gn N sc d ms es = true → ∀ e ∈ es, plainE e = true
  | .nil, [], _, e, he => by cases he
  | .nil, _ :: _, h, _, _ => Bool.noConfusion (show false = true from h)
  | .cons m ms, [], h, _, _ => Bool.noConfusion (show false = true from h)
  | .cons m ms, e1 :: es, h, e, he => by
    obtain ⟨h1, h2⟩ := ba (a := chkE fn gn N sc d m e1) (b := chkEs fn gn N sc d ms es) h
    rcases List.mem_cons.mp he with rfl | he
    · exact plain_of h1
    · exact nostar_of h2 e he
theorem star_all (X : Cx) : ∀ {es : List Expr}, (∀ e ∈ es, plainE e = true) → (starEach es X.env).any (·.1) = false
  | [], _ => rfl
  | e :: es, h => by
    rw [plain_star (h e List.mem_cons_self)]
    simpa using star_all X fun e he => h e (List.mem_cons_of_mem _ he)
theorem star_back {pos : Pos} {es : List Expr} (h : ∀ e ∈ es, plainE e = true) : (backTo pos (starEach es X.env)).any (·.1) = false := by
  have q := star_all X h
  unfold backTo
  rw [List.any_map]
  exact q
theorem star_len (X : Cx) : ∀ {es : List Expr}, (starEach es X.env).length = es.length
  | [] => rfl
  | e :: es => by
    have q := star_len X (es := es)
    cases e <;> simp [starEach, q]
theorem few_of {cpos : Pos} {e : Expr} {es : List Expr} (h : ∀ z ∈ e :: es, plainE z = true) (hl : (e :: es).length < 20) : ((backTo cpos (starEach (e :: es) X.env)).all (fun x => !x.1) && (backToKw cpos (keywordEach [] X.env)).all (fun x => x.1.isSome)
      && decide ((e :: es).length + ([] : List Keyword).length + (if ([] : List Keyword).isEmpty then 0 else 1) < 30)) = true := by
  have q := star_back (X := X) (pos := cpos) h
  rw [Bool.and_eq_true, Bool.and_eq_true]
  refine ⟨⟨?_, rfl⟩, decide_eq_true (by show (e :: es).length + 0 + 0 < 30; omega)⟩
  rw [List.all_eq_true]
  intro x hx
  have : (backTo cpos (starEach (e :: es) X.env)).any (·.1) = false := q
  rw [List.any_eq_false] at this
  simpa using this x hx
theorem base_of {e : Expr} {nm : Str} (h : baseB e = true) : attributeBase e nm X.env (eval e X.env) = eval e X.env := by
  cases e <;> first | rfl | cases h
end
end Mi

set_option Elab.async false
set_option linter.all false
set_option maxRecDepth 100000
set_option maxHeartbeats 4000000
namespace Mi
open PySem PySem.Spec PyProof.Rows L2
section
variable {fn gn : List Str} {gls : List D} {tb : List MF} {k : Nat} {N : List Str} {sc : Scope} {d : Bool} {X : Cx}
theorem nc {P : Prop} (h : false = true) : P := Bool.noConfusion h
theorem pgs_of (c : Cok fn gn gls tb k N sc d X) : ∀ {is : List Nat} {ts : List Expr}, chkNs N sc d is ts = true → PGs X ts (gNames is) ∧ (assignEach ts X.env).length = is.length ∧ (assignEach ts X.env).findIdx? (·.1) = none
  | [], [], _ => ⟨pgs_nil, rfl, rfl⟩
  | [], _ :: _, h => nc h
  | i :: is, [], h => nc h
  | i :: is, t :: ts, h => by
    cases t <;> first | exact nc h | skip
    rename_i x p
    obtain ⟨h1, h2⟩ := ba (show (decide (N[i]? = some x) && (locB d sc x && chkNs N sc d is ts)) = true from h)
    obtain ⟨h2, h3⟩ := ba h2
    obtain ⟨q1, q2, q3⟩ := pgs_of c h3
    obtain ⟨l1, l2⟩ := c.loc h2
    refine ⟨pgs_cons (pg_name (by rw [c.hN]; exact c.nd) (c.at_ h1) l1 l2) q1 rfl, ?_, ?_⟩
    · show ((assignEach ts X.env).length + 1) = is.length + 1
      rw [q2]
    · show (List.findIdx? (·.1) ((false, _) :: assignEach ts X.env)) = none
      rw [List.findIdx?_cons]
      simp [q3]
theorem blk_ok {scope : Scope} {s : Shared} {H : Hp} {C : Addr} {cl : List (Str × Addr)} {fp : List Addr} (c : Cok fn gn gls tb k N sc d X) (hk : scope.kind = .function) :
    Cok fn gn gls tb k N (relS scope sc) false (X.blk s H scope (compEnvC scope cl C X.env) fp) where
  calm := c.calm
  hN := c.hN
  nd := c.nd
  hsc := by
    show relabel scope X.env = relS scope sc
    rw [← c.hsc]
    rfl
  kd := hk
  fnc := fun h => nc h
  room := c.room
  po := PassesOwn.never
  gb := c.gb
theorem sw_cell {elt : Expr} {gs : List Comprehension} {scope : Scope} {pos py : Pos} {y : Str} {l : Nat} {env : Env} (hy : env.scope.names.lookup y = some .cell) : swapsWith (.ListComp elt gs scope pos) (some (.Name y py)) l env = pure false := by
  have ky : env.kindOf y = some .cell := hy
  unfold swapsWith
  simp only [ky]
  have z : (some NameKind.cell == some NameKind.local) = false := by decide
  rw [z]
  simp
theorem sw_plain {e : Expr} {t : Option Expr} {l : Nat} {env : Env} (h : noComp e = true) : swapsWith e t l env = pure false := by
  cases e <;> first | exact nc h | rfl
theorem sw_other {e : Expr} {t : Expr} {l : Nat} {env : Env} (h : (match t with | .Name _ _ => false | _ => true) = true) : swapsWith e (some t) l env = pure false := by
  cases t <;> first | exact nc h | (cases e <;> rfl)
theorem stores_swap {x y : Str} {a b : Expr} {px py pt : Pos} {kt k2 pt2} (hk : X.env.scope.kind = .function) (hx : X.env.scope.names.lookup x = some .local) (hy : X.env.scope.names.lookup y = some .local) (hl : (py.line == px.line) = true) (hne : (x == y) = false)
    (h1 : noStar a = true) (h2 : noStar b = true) (hf : ([a, b].all (foldedForSure 8)) = false) (hc : ([a, b].all (constantsAlone 8)) = false) :
    swappedStores [.Tuple [.Name x px, .Name y py] kt pt] (.Tuple [a, b] k2 pt2) X.env = pure (some [x, y]) := by
  have kx : X.env.kindOf x = some .local := hx
  have ky : X.env.kindOf y = some .local := hy
  have hb : X.env.blockKind = .function := by unfold Env.blockKind; rw [hk]; rfl
  have hyx : (y == x) = false := by
    rw [beq_eq_false_iff_ne] at hne ⊢
    exact hne.symm
  unfold swappedStores
  have s1 : (match a with | .Starred .. => true | _ => false) = false := by cases a <;> first | rfl | exact nc h1
  have s2 : (match b with | .Starred .. => true | _ => false) = false := by cases b <;> first | rfl | exact nc h2
  have hl' : py.line = px.line := by simpa using hl
  have e1 : [x, y].eraseDups.length = 2 := by simp [List.eraseDups_cons, hyx]
  simp only [hb, kx, ky, Expr.pos, List.length_cons, List.length_nil, List.any_cons, List.any_nil, s1, s2, List.head?_cons, Option.map_some, Option.getD_some, List.filterMap_cons, List.filterMap_nil, hl', hf, hc, BEq.rfl, Bool.and_self, if_true]
  simp [e1, hb, hf, hc]
  intro h
  exfalso
  rcases h with h | h
  · cases a <;> first | exact nc h1 | exact nc h
  · cases b <;> first | exact nc h2 | exact nc h
theorem ty_name (u : Tyn) : bootBuiltins (tyName u) = some (.type (tynStr u)) ∧ tyName u ∈ bltNames ∧ tyName u ≠ "__name__" ∧ (tyName u == ("__debug__" : Str)) = false := by
  cases u <;> exact ⟨by decide +kernel, by decide +kernel, by decide +kernel, by decide +kernel⟩
theorem blt_in (f : Blt) : bltStr f ∈ bltNames := by cases f <;> decide +kernel
theorem isi_in : ("isinstance" : Str) ∈ bltNames := by decide +kernel
theorem rng_in : ("range" : Str) ∈ bltNames := by decide +kernel
theorem pts_none {X : Cx} : PTs X [] (lfT X.K fun _ h Q => Q true h) := ⟨fun pins s σ H Q I ⟨loc, σ', h, Q', rs, rh, w, k⟩ => pts_nil.run pins s σ H Q I (k _ _ _ _ w Xt.refl rh)⟩
theorem pe_non_any {e : Expr} : PE X e (fun _ _ _ => False) := ⟨fun _ _ _ _ _ _ h => h.elim⟩
theorem lc_parts {a b1 b2 b3 b4 b5 : Bool} (h : (a && (b1 && (b2 && (b3 && (b4 && b5))))) = true) : a = true ∧ b1 = true ∧ b2 = true ∧ b3 = true ∧ b4 = true ∧ b5 = true := by
  simpa [Bool.and_eq_true] using h
/-- a comprehension's target -/
theorem lc_goal (gls : List D) (tb : List MF) {scope : Scope} {t : MT} {tg : Expr} (c : Cok fn gn gls tb k N sc d X) (hb : blkC N sc scope ((slotsOf t).map fun i => (N.getD i Str.empty, i)) = true) (hG : chkGc fn gn N (relS scope sc) t tg = true) :
    ∃ g : TG, OwnG X.K (wG gls (run gls tb k) EX0 t) g (slotsOf t) ∧ (∀ (s : Shared) (H : Hp) (C : Addr) (cl : List (Str × Addr)) (fp : List Addr), PG (X.blk s H scope (compEnvC scope cl C X.env) fp) tg g) ∧
      BlkOk X.N X.env.scope scope ((slotsOf t).map fun i => (N.getD i Str.empty, i)) ∧ ((slotsOf t).map fun i => (N.getD i Str.empty, i)).map (·.2) = slotsOf t := by
  have ok : BlkOk X.N X.env.scope scope ((slotsOf t).map fun i => (N.getD i Str.empty, i)) := by rw [c.hN, c.hsc]; exact blkOk_by hb
  have ei : ((slotsOf t).map fun i => (N.getD i Str.empty, i)).map (·.2) = slotsOf t := by rw [List.map_map]; exact List.map_id' _
  cases t with
  | name i =>
    cases tg <;> first | exact nc hG | skip
    rename_i x p
    obtain ⟨h1, h2⟩ := ba hG
    refine ⟨gName i, own_name (by simp [slotsOf]), fun s H C cl fp => ?_, ok, ei⟩
    have c' := blk_ok (s := s) (H := H) (C := C) (cl := cl) (fp := fp) c ok.kind
    obtain ⟨l1, l2⟩ := c'.loc h2
    exact pg_name (by rw [c'.hN]; exact c.nd) (c'.at_ h1) l1 l2
  | tup is =>
    cases tg <;> first | exact nc hG | skip
    refine ⟨gTup X.K is.length (gNames is), own_tup (fun i hi => hi), fun s H C cl fp => ?_, ok, ei⟩
    have c' := blk_ok (s := s) (H := H) (C := C) (cl := cl) (fp := fp) c ok.kind
    obtain ⟨q1, q2, q3⟩ := pgs_of c' hG
    exact pg_tup c'.calm q1 q2 q3
  | sub a i => exact nc hG
variable (gls tb)
mutual
theorem sndB : ∀ (m : ME), (∀ (N : List Str) (sc : Scope) (d : Bool) (X : Cx) (e : Expr), Cok fn gn gls tb k N sc d X → chkE fn gn N sc d m e = true → PE X e (lfE X.K (wE gls (run gls tb k) EX0 m))) ∧
    (∀ (N : List Str) (sc : Scope) (d : Bool) (X : Cx) (e : Expr), Cok fn gn gls tb k N sc d X → chkT fn gn N sc d m e = true → PT X e (lfT X.K (wT gls (run gls tb k) EX0 m))) ∧
    (∀ (N : List Str) (sc : Scope) (d : Bool) (X : Cx) (op : BoolOp) (vs : List Expr) (pos : Pos), Cok fn gn gls tb k N sc d X → chkT fn gn N sc d m (.BoolOp op vs pos) = true → PW X (.BoolOp op vs pos) (lfT X.K (wT gls (run gls tb k) EX0 m)))
  | .non => by
    refine ⟨?_, ?_, fun N sc d X op vs pos c h => nc h⟩
    · exact fun N sc d X e c h => by
        cases e <;> first | exact nc h | skip
        rename_i v _ _
        cases v <;> first | exact nc h | exact s_cst pe_non fun _ _ => rd_non
    · exact fun N sc d X e c h => nc h
  | .bl b => by
    refine ⟨?_, ?_, fun N sc d X op vs pos c h => nc h⟩
    · exact fun N sc d X e c h => by
        cases e <;> first | exact nc h | skip
        rename_i v _ _
        cases v <;> first | exact nc h | skip
        obtain rfl := of_decide_eq_true h
        exact s_cst pe_bl fun _ _ => rd_bl
    · exact fun N sc d X e c h => by
        cases e <;> first | exact nc h | skip
        rename_i v _ _
        cases v <;> first | exact nc h | skip
        obtain rfl := of_decide_eq_true h
        exact pt_imp (b_val (X := X) (s_cst (d := .bl b) (v := .bl b) pe_bl fun _ _ => rd_bl) fun _ => rfl) fun _ _ _ w => w
  | .int i => by
    refine ⟨?_, ?_, fun N sc d X op vs pos c h => nc h⟩
    · exact fun N sc d X e c h => by
        cases e <;> first | exact nc h | skip
        rename_i v _ _
        cases v <;> first | exact nc h | skip
        obtain rfl := of_decide_eq_true h
        exact s_cst pe_int fun _ _ => rd_int
    · exact fun N sc d X e c h => nc h
  | .str x => by
    refine ⟨?_, ?_, fun N sc d X op vs pos c h => nc h⟩
    · exact fun N sc d X e c h => by
        cases e <;> first | exact nc h | skip
        rename_i v _ _
        cases v <;> first | exact nc h | skip
        obtain rfl := of_decide_eq_true h
        exact s_cst pe_str fun _ _ => rd_str
    · exact fun N sc d X e c h => nc h
  | .var i => by
    refine ⟨?_, ?_, fun N sc d X op vs pos c h => nc h⟩
    · exact fun N sc d X e c h => by
        cases e <;> first | exact nc h | skip
        obtain ⟨h1, h2⟩ := ba h
        obtain ⟨h2, h3⟩ := ba h2
        exact s_var (pe_var (c.at_ h1) (c.vis h2) (nm1 h3) (nm2 h3))
    · exact fun N sc d X e c h => by
        cases e <;> first | exact nc h | skip
        obtain ⟨h1, g1⟩ := ba h
        obtain ⟨h2, h3⟩ := ba g1
        exact b_val (s_var (pe_var (c.at_ h1) (c.vis h2) (nm1 h3) (nm2 h3))) fun _ => rfl
  | .gl i => by
    refine ⟨?_, ?_, fun N sc d X op vs pos c h => nc h⟩
    · exact fun N sc d X e c h => by
        cases e <;> first | exact nc h | skip
        rename_i x _
        obtain ⟨h1, h2⟩ := ba h
        obtain ⟨h2, h3⟩ := ba h2
        cases g : gls[i]? with
        | none =>
          refine pe_imp (pe_non_any : PE X _ fun _ _ _ => False) fun s H Q w => ?_
          obtain ⟨loc, σ, hh, Q', rs, rh, w, _⟩ := w
          have w' : (match gls[i]? with
              | some d => Q' d hh
              | none => False) := w
          rw [g] at w'
          exact w'
        | some dd =>
          obtain ⟨u, v, hm, r, rd⟩ := c.gb.cns i x dd (of_decide_eq_true h1) g
          refine pe_imp (s_cst (pe_glob (c.gl h2) hm r (nm1 h3)) rd) fun s H Q ⟨loc, σ, hh, Q', rs, rh, w, kk⟩ => ⟨loc, σ, hh, Q', rs, rh, ?_, kk⟩
          have w' : (match gls[i]? with
              | some d => Q' d hh
              | none => False) := w
          rw [g] at w'
          exact w'
    · exact fun N sc d X e c h => nc h
  | .bin op a b => by
    refine ⟨?_, ?_, fun N sc d X op vs pos c h => nc h⟩
    · exact fun N sc d X e c h => by
        cases e <;> first | exact nc h | skip
        obtain ⟨h1, h2⟩ := ba h
        obtain ⟨h2, h3⟩ := ba h2
        rw [of_decide_eq_true h1]
        exact s_bin op ((sndB a).1 N sc d X _ c h2) ((sndB b).1 N sc d X _ c h3)
    · exact fun N sc d X e c h => nc h
  | .neg a => by
    refine ⟨?_, ?_, fun N sc d X op vs pos c h => nc h⟩
    · exact fun N sc d X e c h => by
        cases e <;> first | exact nc h | skip
        rename_i o ea _
        cases o <;> first | exact nc h | exact s_neg ((sndB a).1 N sc d X _ c h)
    · exact fun N sc d X e c h => nc h
  | .not a => by
    refine ⟨?_, ?_, fun N sc d X op vs pos c h => nc h⟩
    · exact fun N sc d X e c h => by
        cases e <;> first | exact nc h | skip
        rename_i o ea _
        cases o <;> first | exact nc h | exact s_not ((sndB a).1 N sc d X _ c h)
    · exact fun N sc d X e c h => by
        cases e <;> first | exact nc h | skip
        rename_i o ea _
        cases o <;> first | exact nc h | exact b_not ((sndB a).2.1 N sc d X _ c h)
  | .cmp op a b => by
    refine ⟨?_, ?_, fun N sc d X op vs pos c h => nc h⟩
    · exact fun N sc d X e c h => by
        cases e <;> first | exact nc h | skip
        rename_i ea ops cs _
        match ops, cs, h with
        | [o], [eb], h =>
          obtain ⟨h1, h2⟩ := ba (show (decide (o = copOf op) && (chkE fn gn N sc d a ea && chkE fn gn N sc d b eb)) = true from h)
          obtain ⟨h2, h3⟩ := ba h2
          rw [of_decide_eq_true h1]
          exact s_cmp op ((sndB a).1 N sc d X _ c h2) ((sndB b).1 N sc d X _ c h3) (plain_mark (plain_of h3))
        | [], _, h => exact nc h
        | [_], [], h => exact nc h
        | [_], _ :: _ :: _, h => exact nc h
        | _ :: _ :: _, [], h => exact nc h
        | _ :: _ :: _, [_], h => exact nc h
        | [_, _], _ :: _ :: _, h => exact nc h
        | _ :: _ :: _ :: _, _ :: _ :: _, h => exact nc h
    · exact fun N sc d X e c h => by
        cases e <;> first | exact nc h | skip
        rename_i ea ops cs _
        match ops, cs, h with
        | [o], [eb], h =>
          obtain ⟨h1, h2⟩ := ba (show (decide (o = copOf op) && (chkE fn gn N sc d a ea && chkE fn gn N sc d b eb)) = true from h)
          obtain ⟨h2, h3⟩ := ba h2
          rw [of_decide_eq_true h1]
          exact b_cmp op ((sndB a).1 N sc d X _ c h2) ((sndB b).1 N sc d X _ c h3) (plain_mark (plain_of h3))
        | [], _, h => exact nc h
        | [_], [], h => exact nc h
        | [_], _ :: _ :: _, h => exact nc h
        | _ :: _ :: _, [], h => exact nc h
        | _ :: _ :: _, [_], h => exact nc h
        | [_, _], _ :: _ :: _, h => exact nc h
        | _ :: _ :: _ :: _, _ :: _ :: _, h => exact nc h
  | .chain op op' a b cc => by
    refine ⟨?_, ?_, fun N sc d X op vs pos c h => nc h⟩
    · exact fun N sc d X e c h => by
        cases e <;> first | exact nc h | skip
        rename_i ea ops cs _
        match ops, cs, h with
        | [o, o'], [eb, ec], h =>
          obtain ⟨h1, h2⟩ := ba (show (decide (o = copOf op) && (decide (o' = copOf op') && (chkE fn gn N sc d a ea && (chkE fn gn N sc d b eb && chkE fn gn N sc d cc ec)))) = true from h)
          obtain ⟨h2, h3⟩ := ba h2
          obtain ⟨h3, h4⟩ := ba h3
          obtain ⟨h4, h5⟩ := ba h4
          rw [of_decide_eq_true h1, of_decide_eq_true h2]
          exact s_chain op op' ((sndB a).1 N sc d X _ c h3) ((sndB b).1 N sc d X _ c h4) ((sndB cc).1 N sc d X _ c h5) (plain_mark (plain_of h5))
        | [], _, h => exact nc h
        | [_], _, h => exact nc h
        | [_, _], [], h => exact nc h
        | [_, _], [_], h => exact nc h
        | [_, _], _ :: _ :: _ :: _, h => exact nc h
        | _ :: _ :: _ :: _, _, h => exact nc h
    · exact fun N sc d X e c h => by
        cases e <;> first | exact nc h | skip
        rename_i ea ops cs _
        match ops, cs, h with
        | [o, o'], [eb, ec], h =>
          obtain ⟨h1, h2⟩ := ba (show (decide (o = copOf op) && (decide (o' = copOf op') && (chkE fn gn N sc d a ea && (chkE fn gn N sc d b eb && chkE fn gn N sc d cc ec)))) = true from h)
          obtain ⟨h2, h3⟩ := ba h2
          obtain ⟨h3, h4⟩ := ba h3
          obtain ⟨h4, h5⟩ := ba h4
          rw [of_decide_eq_true h1, of_decide_eq_true h2]
          exact b_chain op op' ((sndB a).1 N sc d X _ c h3) ((sndB b).1 N sc d X _ c h4) ((sndB cc).1 N sc d X _ c h5) (plain_mark (plain_of h5))
        | [], _, h => exact nc h
        | [_], _, h => exact nc h
        | [_, _], [], h => exact nc h
        | [_, _], [_], h => exact nc h
        | [_, _], _ :: _ :: _ :: _, h => exact nc h
        | _ :: _ :: _ :: _, _, h => exact nc h
  | .and a b => by
    have E : ∀ (N : List Str) (sc : Scope) (d : Bool) (X : Cx) (e : Expr), Cok fn gn gls tb k N sc d X → chkE fn gn N sc d (.and a b) e = true → PE X e (lfE X.K (wE gls (run gls tb k) EX0 (.and a b))) := fun N sc d X e c h => by
      cases e <;> first | exact nc h | skip
      rename_i o vs pos
      cases o <;> first | exact nc h | skip
      match vs, h with
      | [ea, eb], h =>
        obtain ⟨h1, h2⟩ := ba (show (chkE fn gn N sc d a ea && chkE fn gn N sc d b eb) = true from h)
        exact s_and ((sndB a).1 N sc d X _ c h1) (pe_one ((sndB b).1 N sc d X _ c h2))
      | ea :: eb :: ec :: r, h =>
        obtain ⟨h1, h2⟩ := ba (show (chkE fn gn N sc d a ea && chkE fn gn N sc d b (.BoolOp .And (eb :: ec :: r) pos)) = true from h)
        exact s_and ((sndB a).1 N sc d X _ c h1) ((sndB b).1 N sc d X _ c h2)
      | [], h => exact nc h
      | [_], h => exact nc h
    have W : ∀ (N : List Str) (sc : Scope) (d : Bool) (X : Cx) (op : BoolOp) (vs : List Expr) (pos : Pos), Cok fn gn gls tb k N sc d X → chkT fn gn N sc d (.and a b) (.BoolOp op vs pos) = true → PW X (.BoolOp op vs pos) (lfT X.K (wT gls (run gls tb k) EX0 (.and a b))) := fun N sc d X op vs pos c h => by
      cases op <;> first | exact nc h | skip
      match vs, h with
      | [ea, eb], h =>
        obtain ⟨h1, h2⟩ := ba (show (chkT fn gn N sc d a ea && chkT fn gn N sc d b eb) = true from h)
        exact b_and ((sndB a).2.1 N sc d X _ c h1) (pw_and1 ((sndB b).2.1 N sc d X _ c h2))
      | ea :: eb :: ec :: r, h =>
        obtain ⟨h1, h2⟩ := ba (show (chkT fn gn N sc d a ea && chkT fn gn N sc d b (.BoolOp .And (eb :: ec :: r) pos)) = true from h)
        exact b_and ((sndB a).2.1 N sc d X _ c h1) ((sndB b).2.2 N sc d X _ _ pos c h2)
      | [], h => exact nc h
      | [_], h => exact nc h
    refine ⟨E, fun N sc d X e c h => ?_, W⟩
    cases e <;> first | exact nc h | exact (W N sc d X _ _ _ c h).pt
  | .or a b => by
    have E : ∀ (N : List Str) (sc : Scope) (d : Bool) (X : Cx) (e : Expr), Cok fn gn gls tb k N sc d X → chkE fn gn N sc d (.or a b) e = true → PE X e (lfE X.K (wE gls (run gls tb k) EX0 (.or a b))) := fun N sc d X e c h => by
      cases e <;> first | exact nc h | skip
      rename_i o vs pos
      cases o <;> first | exact nc h | skip
      match vs, h with
      | [ea, eb], h =>
        obtain ⟨h1, h2⟩ := ba (show (chkE fn gn N sc d a ea && chkE fn gn N sc d b eb) = true from h)
        exact s_or ((sndB a).1 N sc d X _ c h1) (pe_one ((sndB b).1 N sc d X _ c h2))
      | ea :: eb :: ec :: r, h =>
        obtain ⟨h1, h2⟩ := ba (show (chkE fn gn N sc d a ea && chkE fn gn N sc d b (.BoolOp .Or (eb :: ec :: r) pos)) = true from h)
        exact s_or ((sndB a).1 N sc d X _ c h1) ((sndB b).1 N sc d X _ c h2)
      | [], h => exact nc h
      | [_], h => exact nc h
    have W : ∀ (N : List Str) (sc : Scope) (d : Bool) (X : Cx) (op : BoolOp) (vs : List Expr) (pos : Pos), Cok fn gn gls tb k N sc d X → chkT fn gn N sc d (.or a b) (.BoolOp op vs pos) = true → PW X (.BoolOp op vs pos) (lfT X.K (wT gls (run gls tb k) EX0 (.or a b))) := fun N sc d X op vs pos c h => by
      cases op <;> first | exact nc h | skip
      match vs, h with
      | [ea, eb], h =>
        obtain ⟨h1, h2⟩ := ba (show (chkT fn gn N sc d a ea && chkT fn gn N sc d b eb) = true from h)
        exact b_or ((sndB a).2.1 N sc d X _ c h1) (pw_or1 ((sndB b).2.1 N sc d X _ c h2))
      | ea :: eb :: ec :: r, h =>
        obtain ⟨h1, h2⟩ := ba (show (chkT fn gn N sc d a ea && chkT fn gn N sc d b (.BoolOp .Or (eb :: ec :: r) pos)) = true from h)
        exact b_or ((sndB a).2.1 N sc d X _ c h1) ((sndB b).2.2 N sc d X _ _ pos c h2)
      | [], h => exact nc h
      | [_], h => exact nc h
    refine ⟨E, fun N sc d X e c h => ?_, W⟩
    cases e <;> first | exact nc h | exact (W N sc d X _ _ _ c h).pt
  | .ife t a b => by
    refine ⟨?_, ?_, fun N sc d X op vs pos c h => nc h⟩
    · exact fun N sc d X e c h => by
        cases e <;> first | exact nc h | skip
        obtain ⟨h1, h2⟩ := ba h
        obtain ⟨h2, h3⟩ := ba h2
        exact s_ife ((sndB t).2.1 N sc d X _ c h1) ((sndB a).1 N sc d X _ c h2) ((sndB b).1 N sc d X _ c h3)
    · exact fun N sc d X e c h => nc h
  | .call f es => by
    have E : ∀ (N : List Str) (sc : Scope) (d : Bool) (X : Cx) (e : Expr), Cok fn gn gls tb k N sc d X → chkE fn gn N sc d (.call f es) e = true → PE X e (lfE X.K (wE gls (run gls tb k) EX0 (.call f es))) := fun N sc d X e c h => by
      cases e <;> first | exact nc h | skip
      rename_i fe as kw pos
      cases fe <;> first | exact nc h | skip
      rename_i x px
      cases kw <;> first | exact nc h | skip
      obtain ⟨h1, g1⟩ := ba h
      obtain ⟨h2, g2⟩ := ba g1
      obtain ⟨h3, h4⟩ := ba g2
      obtain ⟨a, fd, ps, hm, hk, hb, F⟩ := c.gb.fns f x (of_decide_eq_true h1)
      have pl := nostar_of h4
      cases as with
      | nil =>
        cases es <;> first | exact nc h4 | skip
        exact s_call0 F c.room (c.gl h2) hm hk hb (nm1 h3)
      | cons e1 as => exact s_call F c.room (c.gl h2) hm hk hb (sndEs es N sc d X _ c h4) (nm1 h3) (plain_star (pl _ List.mem_cons_self)) (star_back fun z hz => pl z (List.mem_cons_of_mem _ hz))
    refine ⟨E, fun N sc d X e c h => ?_, fun N sc d X op vs pos c h => nc h⟩
    have q := E N sc d X e c h
    cases e <;> first | exact nc h | exact b_val q fun _ => rfl
  | .blt f es => by
    refine ⟨?_, ?_, fun N sc d X op vs pos c h => nc h⟩
    · exact fun N sc d X e c h => by
        cases e <;> first | exact nc h | skip
        rename_i fe as kw pos
        cases fe <;> first | exact nc h | skip
        rename_i x px
        cases kw <;> cases as <;> first | exact nc h | skip
        obtain ⟨h1, h2⟩ := ba h
        obtain ⟨h2, h3⟩ := ba h2
        have pl := nostar_of h3
        have hx := of_decide_eq_true h1
        exact s_blt f (v := .none) c.calm (c.gl h2) hx (by rw [hx]; exact c.gb.blt _ (blt_in f)) (sndEs es N sc d X _ c h3) (plain_star (pl _ List.mem_cons_self)) (star_back fun z hz => pl z (List.mem_cons_of_mem _ hz))
    · exact fun N sc d X e c h => nc h
  | .isi a ts => by
    have E : ∀ (N : List Str) (sc : Scope) (d : Bool) (X : Cx) (e : Expr), Cok fn gn gls tb k N sc d X → chkE fn gn N sc d (.isi a ts) e = true → PE X e (lfE X.K (wE gls (run gls tb k) EX0 (.isi a ts))) := fun N sc d X e c h => by
      obtain ⟨u, ea, ty, x, p1, p2, p3, rfl, rfl, rfl, hty, g1, g2, hc⟩ : ∃ u ea ty x p1 p2 p3, ts = [u] ∧ e = .Call (.Name x p1) [ea, .Name ty p2] [] p3 ∧ x = ("isinstance" : Str) ∧ ty = tyName u ∧ glB sc x = true ∧ glB sc ty = true ∧ chkE fn gn N sc d a ea = true := by
        cases e <;> first | exact nc h | skip
        rename_i fe as kw pos
        cases fe <;> first | exact nc h | skip
        rename_i x px
        match as, h with
        | [], h => exact nc h
        | [_], h => exact nc h
        | _ :: et :: _ :: _, h => cases et <;> exact nc h
        | [ea, et], h =>
          cases et <;> first | exact nc h | skip
          rename_i ty p2
          cases kw <;> first | exact nc h | skip
          match ts, h with
          | [], h => exact nc h
          | _ :: _ :: _, h => exact nc h
          | [u], h =>
            obtain ⟨h1, g1⟩ := ba (show (decide (x = ("isinstance" : Str)) && (glB sc x && (decide (ty = tyName u) && (glB sc ty && chkE fn gn N sc d a ea)))) = true from h)
            obtain ⟨h2, g2⟩ := ba g1
            obtain ⟨h3, g3⟩ := ba g2
            obtain ⟨h4, h5⟩ := ba g3
            exact ⟨u, ea, ty, x, _, _, _, rfl, rfl, of_decide_eq_true h1, of_decide_eq_true h3, h2, h4, h5⟩
      subst hty
      obtain ⟨t1, t2, t3, t4⟩ := ty_name u
      have ht : PE X (.Name (tyName u) p2) (tC (.ty (tynStr u))) := pe_bltn (c.gl g2) (c.gb.blt _ t2) t1 rfl t3 t4
      have ha := (sndB a).1 N sc d X ea c hc
      have st1 : starEach [ea, Expr.Name (tyName u) p2] X.env = (false, eval ea X.env) :: starEach [Expr.Name (tyName u) p2] X.env := plain_star (plain_of hc)
      exact s_isi u (c.gl g1) (c.gb.blt _ isi_in) ha ht (pa_cons ha (pa_cons ht pa_nil rfl) st1) st1 rfl
    refine ⟨E, fun N sc d X e c h => ?_, fun N sc d X op vs pos c h => nc h⟩
    have q := E N sc d X e c h
    cases e <;> first | exact nc h | exact b_val q fun _ => rfl
  | .meth m o es => by
    refine ⟨?_, ?_, fun N sc d X op vs pos c h => nc h⟩
    · exact fun N sc d X e c h => by
        cases e <;> first | exact nc h | skip
        rename_i fe as kw cpos
        cases fe <;> first | exact nc h | skip
        rename_i eo nm apos
        cases kw <;> first | exact nc h | skip
        obtain ⟨h1, g1⟩ := ba h
        obtain ⟨h2, g2⟩ := ba g1
        obtain ⟨h3, g3⟩ := ba g2
        obtain ⟨h4, g4⟩ := ba g3
        obtain ⟨h5, h6⟩ := ba g4
        have hl : (apos.endLine == cpos.line) = true := by rw [of_decide_eq_true h4]; simp
        have pl := nostar_of h6
        cases as with
        | nil =>
          cases es <;> first | exact nc h6 | skip
          exact s_meth0 m (of_decide_eq_true h1) ((sndB o).1 N sc d X _ c h5) (base_of h3) hl
        | cons e1 as => exact s_meth m (of_decide_eq_true h1) ((sndB o).1 N sc d X _ c h5) (sndEs es N sc d X _ c h6) (base_of h3) (few_of pl (of_decide_eq_true h2)) hl (plain_star (pl _ List.mem_cons_self)) (star_back fun z hz => pl z (List.mem_cons_of_mem _ hz))
    · exact fun N sc d X e c h => nc h
  | .ix a i => by
    have E : ∀ (N : List Str) (sc : Scope) (d : Bool) (X : Cx) (e : Expr), Cok fn gn gls tb k N sc d X → chkE fn gn N sc d (.ix a i) e = true → PE X e (lfE X.K (wE gls (run gls tb k) EX0 (.ix a i))) := fun N sc d X e c h => by
      cases e <;> first | exact nc h | skip
      obtain ⟨h1, h2⟩ := ba h
      exact s_ix ((sndB a).1 N sc d X _ c h1) ((sndB i).1 N sc d X _ c h2) (plain_ix (plain_of h2))
    refine ⟨E, fun N sc d X e c h => ?_, fun N sc d X op vs pos c h => nc h⟩
    have q := E N sc d X e c h
    cases e <;> first | exact nc h | exact b_val q fun _ => rfl
  | .sl a lo hi => by
    refine ⟨?_, ?_, fun N sc d X op vs pos c h => nc h⟩
    · exact fun N sc d X e c h => by
        cases e <;> first | exact nc h | skip
        rename_i ea sl _
        cases sl <;> first | exact nc h | skip
        rename_i l u st _
        cases st <;> first | exact nc h | skip
        obtain ⟨h1, h2⟩ := ba h
        obtain ⟨h2, h3⟩ := ba h2
        exact s_sl ((sndB a).1 N sc d X _ c h1) (sndEo lo N sc d X _ c h2) (sndEo hi N sc d X _ c h3)
    · exact fun N sc d X e c h => nc h
  | .tup es => by
    refine ⟨?_, ?_, fun N sc d X op vs pos c h => nc h⟩
    · exact fun N sc d X e c h => by
        cases e <;> first | exact nc h | skip
        exact s_tup (sndEs es N sc d X _ c h)
    · exact fun N sc d X e c h => nc h
  | .lst es => by
    refine ⟨?_, ?_, fun N sc d X op vs pos c h => nc h⟩
    · exact fun N sc d X e c h => by
        cases e <;> first | exact nc h | skip
        exact s_lst (sndEs es N sc d X _ c h)
    · exact fun N sc d X e c h => nc h
  | .lc elt t it cd => by
    refine ⟨?_, ?_, fun N sc d X op vs pos c h => nc h⟩
    · exact fun N sc d X e c h => by
        cases e <;> first | exact nc h | skip
        rename_i el gs scope pos
        match gs, h with
        | [⟨tg, iter, ifs, asy⟩], h =>
          obtain ⟨hz, hI, hb, hG, hC, hE⟩ := lc_parts (show (decide (asy = 0) && (chkI fn gn N sc d it iter && (blkC N sc scope ((slotsOf t).map fun i => (N.getD i Str.empty, i)) && (chkGc fn gn N (relS scope sc) t tg && (chkC fn gn N (relS scope sc) false cd ifs && chkE fn gn N (relS scope sc) false elt el))))) = true from h)
          obtain rfl := of_decide_eq_true hz
          obtain ⟨g, og, hg, ok, ei⟩ := lc_goal gls tb c hb hG
          refine pe_imp (pe_lc (tt := lfT X.K (wC gls (run gls tb k) EX0 cd)) (te := lfE X.K (wE gls (run gls tb k) EX0 elt)) c.calm (by rw [c.hN]; exact c.nd) (sndI it N sc d X tg iter c hI).1 ok hg (fun s H C cl fp => sndC cd N _ false _ _ (blk_ok c ok.kind) hC) (fun s H C cl fp => (sndB elt).1 N _ false _ _ (blk_ok c ok.kind) hE) (sndI it N sc d X tg iter c hI).2) fun s H Q w => ?_
          rw [ei]
          exact lc_ok og w
        | [], h => exact nc h
        | ⟨_, _, _, _⟩ :: _ :: _, h => exact nc h
    · exact fun N sc d X e c h => nc h
theorem sndEs : ∀ (m : MEs) (N : List Str) (sc : Scope) (d : Bool) (X : Cx) (es : List Expr), Cok fn gn gls tb k N sc d X → chkEs fn gn N sc d m es = true → PA X es (lfA X.K (wEs gls (run gls tb k) EX0 m))
  | .nil, N, sc, d, X, [], c, h => a_nil
  | .nil, N, sc, d, X, _ :: _, c, h => nc h
  | .cons m ms, N, sc, d, X, [], c, h => nc h
  | .cons m ms, N, sc, d, X, e :: es, c, h => by
    obtain ⟨h1, h2⟩ := ba (show (chkE fn gn N sc d m e && chkEs fn gn N sc d ms es) = true from h)
    exact a_cons ((sndB m).1 N sc d X e c h1) (sndEs ms N sc d X es c h2) (plain_star (plain_of h1))
theorem sndEo : ∀ (m : MEo) (N : List Str) (sc : Scope) (d : Bool) (X : Cx) (o : Option Expr), Cok fn gn gls tb k N sc d X → chkEo fn gn N sc d m o = true → PO X o (lfO X.K (wEo gls (run gls tb k) EX0 m))
  | .none, N, sc, d, X, none, c, h => o_none
  | .none, N, sc, d, X, some _, c, h => nc h
  | .some m, N, sc, d, X, none, c, h => nc h
  | .some m, N, sc, d, X, some e, c, h => o_some ((sndB m).1 N sc d X e c h)
theorem sndC : ∀ (m : MEo) (N : List Str) (sc : Scope) (d : Bool) (X : Cx) (es : List Expr), Cok fn gn gls tb k N sc d X → chkC fn gn N sc d m es = true → PTs X es (lfT X.K (wC gls (run gls tb k) EX0 m))
  | .none, N, sc, d, X, [], c, h => pts_none
  | .none, N, sc, d, X, _ :: _, c, h => nc h
  | .some m, N, sc, d, X, [], c, h => nc h
  | .some m, N, sc, d, X, [e], c, h => pts_one ((sndB m).2.1 N sc d X e c h)
  | .some m, N, sc, d, X, _ :: _ :: _, c, h => nc h
theorem sndI : ∀ (m : MI) (N : List Str) (sc : Scope) (d : Bool) (X : Cx) (tg e : Expr), Cok fn gn gls tb k N sc d X → chkI fn gn N sc d m e = true → PI X tg e (lfI X.K (wI gls (run gls tb k) EX0 m)) ∧ ∀ x, foldedSetIterable e X.env x = pure x
  | .seq m, N, sc, d, X, tg, e, c, h => ⟨i_seq ((sndB m).1 N sc d X e c h), plain_fold (plain_of (m := m) h)⟩
  | .rng1 a, N, sc, d, X, tg, e, c, h => by
    cases e <;> first | exact nc h | skip
    rename_i fe as kw pos
    cases fe <;> first | exact nc h | skip
    rename_i x px
    match as, h with
    | [], h => exact nc h
    | _ :: _ :: _, h => exact nc h
    | [ea], h =>
      cases kw <;> first | exact nc h | skip
      obtain ⟨h1, g1⟩ := ba (show (decide (x = ("range" : Str)) && (glB sc x && chkE fn gn N sc d a ea)) = true from h)
      obtain ⟨h2, h3⟩ := ba g1
      obtain rfl := of_decide_eq_true h1
      have st : starEach [ea] X.env = [(false, eval ea X.env)] := plain_star (plain_of h3)
      exact ⟨i_rng1 (c.gl h2) (c.gb.blt _ rng_in) ((sndB a).1 N sc d X _ c h3) st, fun _ => rfl⟩
  | .rng2 a b, N, sc, d, X, tg, e, c, h => by
    cases e <;> first | exact nc h | skip
    rename_i fe as kw pos
    cases fe <;> first | exact nc h | skip
    rename_i x px
    match as, h with
    | [], h => exact nc h
    | [_], h => exact nc h
    | _ :: _ :: _ :: _, h => exact nc h
    | [ea, eb], h =>
      cases kw <;> first | exact nc h | skip
      obtain ⟨h1, g1⟩ := ba (show (decide (x = ("range" : Str)) && (glB sc x && (chkE fn gn N sc d a ea && chkE fn gn N sc d b eb))) = true from h)
      obtain ⟨h2, g2⟩ := ba g1
      obtain ⟨h3, h4⟩ := ba g2
      obtain rfl := of_decide_eq_true h1
      have st2 : starEach [eb] X.env = [(false, eval eb X.env)] := plain_star (plain_of h4)
      have st : starEach [ea, eb] X.env = [(false, eval ea X.env), (false, eval eb X.env)] := by rw [plain_star (plain_of h3), st2]
      exact ⟨i_rng2 (c.gl h2) (c.gb.blt _ rng_in) ((sndB a).1 N sc d X _ c h3) ((sndB b).1 N sc d X _ c h4) st st2, fun _ => rfl⟩
end
end
end Mi

set_option Elab.async false
set_option linter.all false
set_option maxRecDepth 100000
set_option maxHeartbeats 4000000
namespace Mi
open PySem PySem.Spec PyProof.Rows L2
section
variable {fn gn : List Str} (gls : List D) (tb : List MF) {k : Nat}
theorem sndG : ∀ (m : MT) (N : List Str) (sc : Scope) (d : Bool) (X : Cx) (e : Expr), Cok fn gn gls tb k N sc d X → chkG fn gn N sc d m e = true → PG X e (lfG X.K (wG gls (run gls tb k) EX0 m))
  | .name i, N, sc, d, X, e, c, h => by
    cases e <;> first | exact nc h | skip
    obtain ⟨h1, h2⟩ := ba h
    obtain ⟨l1, l2⟩ := c.loc h2
    exact g_name (pg_name (by rw [c.hN]; exact c.nd) (c.at_ h1) l1 l2)
  | .tup is, N, sc, d, X, e, c, h => by
    cases e <;> first | exact nc h | skip
    obtain ⟨q1, q2, q3⟩ := pgs_of c h
    exact g_tup c.calm q1 q2 q3
  | .sub a i, N, sc, d, X, e, c, h => by
    cases e <;> first | exact nc h | skip
    rename_i ea ei pos
    obtain ⟨h1, h2⟩ := ba (show (chkE fn gn N sc d a ea && chkE fn gn N sc d i ei) = true from h)
    refine g_sub ((sndB gls tb a).1 N sc d X _ c h1) ((sndB gls tb i).1 N sc d X _ c h2) fun v => ?_
    have hp := plain_of h2
    cases ei <;> first | rfl | exact nc hp
theorem sw_sole {e : Expr} {t : Expr} {l : Nat} {env : Env} (h : (match t with | .Name _ _ => false | _ => true) = true) : swapsWithSole [t] e l env = pure false := sw_other h
theorem st_none1 {e : Expr} {tg : Expr} {X : Cx} (h : (match tg with | .Tuple _ _ _ => false | .List _ _ => false | _ => true) = true) : swappedStores [tg] e X.env = pure none := by
  cases tg <;> first | exact nc h | rfl
def noTup : Expr → Bool
  | .Tuple _ _ _ => false
  | _ => true
theorem nt {b : Bool} (h : (!b) = true) : b = false := by cases b; rfl; cases h
theorem st_none2 {e : Expr} {ts : List Expr} {k1 : Nat} {p : Pos} {X : Cx} (h : noTup e = true) : swappedStores [.Tuple ts k1 p] e X.env = pure none := by
  cases e <;> first | exact nc h | rfl
theorem asg_of {t : MT} {m : ME} {N : List Str} {sc : Scope} {X : Cx} {tg e : Expr} {pos : Pos} (c : Cok fn gn gls tb k N sc true X) (h1 : asgB sc tg e = true) (h2 : chkG fn gn N sc true t tg = true) (h3 : chkE fn gn N sc true m e = true) :
    PS X (.Assign [tg] e pos) (lfS X.K (wS gls (run gls tb k) EX0 (.asg t m))) := by
  have G := sndG gls tb t N sc true X tg c h2
  have V := (sndB gls tb m).1 N sc true X e c h3
  cases tg <;> first | exact nc h1 | skip
  · -- o[i]
    exact t_asg V G (sw_sole rfl) (st_none1 rfl) rfl
  · -- a name
    rename_i y py
    cases t <;> first | exact nc h2 | skip
    rename_i i
    obtain ⟨g1, g2⟩ := ba (show (decide (N[i]? = some y) && locB true sc y) = true from h2)
    obtain ⟨l1, l2⟩ := c.loc g2
    have nd : X.N.Nodup := by rw [c.hN]; exact c.nd
    by_cases hp : noComp e = true
    · exact t_set nd (c.at_ g1) l1 V (sw_plain hp) l2
    · cases e <;> first | exact absurd rfl hp | exact nc h1 | skip
      rename_i el gs scope lpos
      have h1' : (isK sc y .cell || (isK sc y .local && ((py.line == lpos.line) && !(scope.names.any fun (n, k) => n == y && (k == .local || k == .cell))))) = true := h1
      rw [Bool.or_eq_true] at h1'
      rcases h1' with z | z
      · exact t_set nd (c.at_ g1) l1 V (sw_cell (by rw [c.hsc]; exact of_decide_eq_true z)) l2
      · obtain ⟨z1, z2⟩ := ba z
        obtain ⟨z2, z3⟩ := ba z2
        have hy : X.env.scope.names.lookup y = some .local := by rw [c.hsc]; exact of_decide_eq_true z1
        cases m <;> first | exact nc h3 | skip
        rename_i elt t2 it cd
        match gs, h3 with
        | [], h => exact nc h
        | ⟨_, _, _, _⟩ :: _ :: _, h => exact nc h
        | [⟨tg, iter, ifs, asy⟩], h =>
          obtain ⟨hz, hI, hb, hG, hC, hE⟩ := lc_parts (show (decide (asy = 0) && (chkI fn gn N sc true it iter && (blkC N sc scope ((slotsOf t2).map fun i => (N.getD i Str.empty, i)) && (chkGc fn gn N (relS scope sc) t2 tg && (chkC fn gn N (relS scope sc) false cd ifs && chkE fn gn N (relS scope sc) false elt el))))) = true from h)
          obtain rfl := of_decide_eq_true hz
          obtain ⟨g, og, hg, ok, ei⟩ := lc_goal gls tb c hb hG
          have sw : swapsWith (.ListComp el [⟨tg, iter, ifs, 0⟩] scope lpos) (some (.Name y py)) pos.line X.env = pure true := sw_true (by rw [c.hsc]; exact c.kd) hy z2 (by simpa using z3)
          refine ps_imp (ps_setLc (tt := lfT X.K (wC gls (run gls tb k) EX0 cd)) (te := lfE X.K (wE gls (run gls tb k) EX0 elt)) c.calm nd (c.at_ g1) hy sw (sndI gls tb it N sc true X tg iter c hI).1 ok hg (fun s H C cl fp => sndC gls tb cd N _ false _ _ (blk_ok c ok.kind) hC) (fun s H C cl fp => (sndB gls tb elt).1 N _ false _ _ (blk_ok c ok.kind) hE) (sndI gls tb it N sc true X tg iter c hI).2) fun E s H w => ?_
          rw [ei]
          obtain ⟨loc, σ, hh, R, rs, rh, w, kk⟩ := w
          exact lc_ok og ⟨loc, σ, hh, _, rs, rh, w, fun dd h1 v H1 loc1 q1 x1 rh1 r1 => kk.nx _ _ _ _ loc1 q1 x1 rh1 ((rs.mono x1).set i r1)⟩
  · -- a tuple of names
    rename_i ts k1 tp
    by_cases ht : noTup e = true
    · exact t_asg V G (sw_sole rfl) (st_none2 ht) rfl
    · cases e <;> first | exact absurd rfl ht | skip
      rename_i vs k2 pt2
      cases t <;> first | exact nc h2 | skip
      rename_i is
      cases m <;> first | exact nc h3 | skip
      rename_i es
      match ts, vs, h1 with
      | [], _, h => exact nc h
      | [t1], _, h => cases t1 <;> exact nc h
      | t1 :: t2 :: _ :: _, _, h => cases t1 <;> first | exact nc h | (cases t2 <;> exact nc h)
      | [t1, t2], [], h => cases t1 <;> first | exact nc h | (cases t2 <;> exact nc h)
      | [t1, t2], [_], h => cases t1 <;> first | exact nc h | (cases t2 <;> exact nc h)
      | [t1, t2], _ :: _ :: _ :: _, h => cases t1 <;> first | exact nc h | (cases t2 <;> exact nc h)
      | [t1, t2], [a, b], h =>
        cases t1 <;> first | exact nc h | skip
        cases t2 <;> first | exact nc h | skip
        rename_i x px y py
        obtain ⟨a1, b1⟩ := ba (show (isK sc x .local && (isK sc y .local && ((py.line == px.line) && (!(x == y) && (!([a, b].all (foldedForSure 8)) && !([a, b].all (constantsAlone 8))))))) = true from h)
        obtain ⟨a2, b2⟩ := ba b1
        obtain ⟨a3, b3⟩ := ba b2
        obtain ⟨a4, b4⟩ := ba b3
        obtain ⟨a5, a6⟩ := ba b4
        match is, h2 with
        | [], h => exact nc h
        | [_], h =>
          have h' : chkNs N sc true [_] [Expr.Name x px, Expr.Name y py] = true := h
          obtain ⟨_, z⟩ := ba h'
          obtain ⟨_, z⟩ := ba z
          exact nc z
        | _ :: _ :: _ :: _, h =>
          have h' : chkNs N sc true (_ :: _ :: _ :: _) [Expr.Name x px, Expr.Name y py] = true := h
          obtain ⟨_, z⟩ := ba h'
          obtain ⟨_, z⟩ := ba z
          obtain ⟨_, z⟩ := ba z
          obtain ⟨_, z⟩ := ba z
          exact nc z
        | [i, j], h =>
          obtain ⟨q1, q2⟩ := ba (show (decide (N[i]? = some x) && (locB true sc x && (decide (N[j]? = some y) && (locB true sc y && true)))) = true from h)
          obtain ⟨_, q3⟩ := ba q2
          obtain ⟨q4, _⟩ := ba q3
          have hx : X.env.scope.names.lookup x = some .local := by rw [c.hsc]; exact of_decide_eq_true a1
          have hy : X.env.scope.names.lookup y = some .local := by rw [c.hsc]; exact of_decide_eq_true a2
          have nxy : (x == y) = false := by simpa using a4
          have hij : i ≠ j := by
            rintro rfl
            have e1 := of_decide_eq_true q1
            have e2 := of_decide_eq_true q4
            rw [e1] at e2
            cases e2
            simp at nxy
          have pl := nostar_of h3
          have pa := pl a List.mem_cons_self
          have pb := pl b (List.mem_cons_of_mem _ List.mem_cons_self)
          have nd : X.N.Nodup := by rw [c.hN]; exact c.nd
          refine ps_imp (t_par c.calm nd (c.at_ q1) (c.at_ q4) hij hx hy (sndEs gls tb es N sc true X _ c h3) (stores_swap (by rw [c.hsc]; exact c.kd) hx hy a3 nxy (ba pa).1 (ba pb).1 (nt a5) (nt a6)) rfl) fun E s H w => w
mutual
theorem sndS : ∀ (m : MS) (N : List Str) (sc : Scope) (X : Cx) (s : Stmt), Cok fn gn gls tb k N sc true X → chkS fn gn N sc m s = true → PS X s (lfS X.K (wS gls (run gls tb k) EX0 m))
  | .expr m, N, sc, X, s, c, h => by
    cases s <;> first | exact nc h | skip
    obtain ⟨h1, h2⟩ := ba h
    exact t_expr ((sndB gls tb m).1 N sc true X _ c h2) (sw_plain h1)
  | .asg t m, N, sc, X, s, c, h => by
    cases s <;> first | exact nc h | skip
    rename_i tgs e pos
    match tgs, h with
    | [], h => exact nc h
    | _ :: _ :: _, h => exact nc h
    | [tg], h =>
      obtain ⟨h1, g1⟩ := ba (show (asgB sc tg e && (chkG fn gn N sc true t tg && chkE fn gn N sc true m e)) = true from h)
      obtain ⟨h2, h3⟩ := ba g1
      exact asg_of gls tb c h1 h2 h3
  | .aug i op m, N, sc, X, s, c, h => by
    cases s <;> first | exact nc h | skip
    rename_i tg o e pos
    cases tg <;> first | exact nc h | skip
    obtain ⟨h1, g1⟩ := ba h
    obtain ⟨h2, g2⟩ := ba g1
    obtain ⟨h3, h4⟩ := ba g2
    obtain rfl := of_decide_eq_true h1
    obtain ⟨l1, l2⟩ := c.loc h3
    exact t_aug op (by rw [c.hN]; exact c.nd) (c.at_ h2) l1 ((sndB gls tb m).1 N sc true X _ c h4) l2
  | .ret m, N, sc, X, s, c, h => by
    cases s <;> first | exact nc h | skip
    rename_i o _
    cases o <;> first | exact nc h | skip
    exact t_ret ((sndB gls tb m).1 N sc true X _ c h)
  | .retN, N, sc, X, s, c, h => by
    cases s <;> first | exact nc h | skip
    rename_i o _
    cases o <;> first | exact nc h | exact t_retN
  | .pass, N, sc, X, s, c, h => by
    cases s <;> first | exact nc h | exact t_pass
  | .brk, N, sc, X, s, c, h => by
    cases s <;> first | exact nc h | exact t_brk
  | .cnt, N, sc, X, s, c, h => by
    cases s <;> first | exact nc h | exact t_cnt
  | .ife t a b, N, sc, X, s, c, h => by
    cases s <;> first | exact nc h | skip
    obtain ⟨h1, g1⟩ := ba h
    obtain ⟨h2, h3⟩ := ba g1
    exact t_ife ((sndB gls tb t).2.1 N sc true X _ c h1) (sndBl a N sc X _ c h2) (sndBl b N sc X _ c h3)
  | .whl t b, N, sc, X, s, c, h => by
    cases s <;> first | exact nc h | skip
    rename_i e bd els pos
    cases els <;> first | exact nc h | skip
    obtain ⟨h1, h2⟩ := ba h
    exact t_whl c.po ((sndB gls tb t).2.1 N sc true X _ c h1) (sndBl b N sc X _ c h2)
  | .forr t it b, N, sc, X, s, c, h => by
    cases s <;> first | exact nc h | skip
    rename_i tg e bd els pos
    cases els <;> first | exact nc h | skip
    obtain ⟨h1, g1⟩ := ba h
    obtain ⟨h2, g2⟩ := ba g1
    obtain ⟨h3, h4⟩ := ba g2
    obtain ⟨I, hs⟩ := sndI gls tb it N sc true X tg e c h3
    exact t_for c.po c.calm I (sndG gls tb t N sc true X tg c h2) (sndBl b N sc X _ c h4) hs
theorem sndBl : ∀ (m : MB) (N : List Str) (sc : Scope) (X : Cx) (ss : List Stmt), Cok fn gn gls tb k N sc true X → chkB fn gn N sc m ss = true → PSs X ss (lfS X.K (wB gls (run gls tb k) EX0 m))
  | .nil, N, sc, X, [], c, h => b_nil
  | .nil, N, sc, X, _ :: _, c, h => nc h
  | .cons m ms, N, sc, X, [], c, h => nc h
  | .cons m ms, N, sc, X, s :: ss, c, h => by
    obtain ⟨h1, h2⟩ := ba (show (chkS fn gn N sc m s && chkB fn gn N sc ms ss) = true from h)
    have q := b_cons (sndS m N sc X s c h1) (sndBl ms N sc X ss c h2)
    exact q
end
end
end Mi

set_option Elab.async false
set_option linter.all false
set_option maxRecDepth 100000
set_option maxHeartbeats 4000000
/-! Mi: a program's defs, all at once; the head's facts; the law. -/
namespace Mi
open PySem PySem.Spec PyProof.Rows L2
theorem zip_look : ∀ {ps : List Str} {us : List Value} {x : Str}, us.length = ps.length → x ∈ ps → ((ps.zip us).lookup x).isNone = false
  | p :: ps, u :: us, x, e, h => by
    show (List.lookup x ((p, u) :: ps.zip us)).isNone = false
    rw [List.lookup_cons]
    by_cases c : (x == p) = true
    · rw [c]; rfl
    · have c' : (x == p) = false := by simpa using c
      rw [c']
      rcases List.mem_cons.mp h with rfl | h
      · simp at c
      · exact zip_look (by simpa using e) h
  | [], _, x, _, h => by cases h
  | _ :: _, [], _, e, _ => by cases e
theorem zip_map : ∀ {ps : List Str} {us : List Value}, us.length = ps.length → ps.Nodup → ps.filterMap (fun n => ((ps.zip us).lookup n).map (n, ·)) = ps.zip us
  | [], _, _, _ => rfl
  | _ :: _, [], e, _ => by cases e
  | p :: ps, u :: us, e, nd => by
    have h1 := (List.nodup_cons.mp nd).1
    have ih := zip_map (ps := ps) (us := us) (by simpa using e) (List.nodup_cons.mp nd).2
    rw [List.filterMap_cons]
    have e0 : Option.map (fun x => (p, x)) (List.lookup p ((p :: ps).zip (u :: us))) = some (p, u) := by simp
    rw [e0]
    show (p, u) :: _ = (p, u) :: ps.zip us
    congr 1
    have key : ∀ l : List Str, (∀ n ∈ l, n ≠ p) → l.filterMap (fun n => Option.map (fun x => (n, x)) (List.lookup n ((p :: ps).zip (u :: us)))) = l.filterMap (fun n => Option.map (fun x => (n, x)) (List.lookup n (ps.zip us))) := by
      intro l
      induction l with
      | nil => intro _; rfl
      | cons n l ihl =>
        intro hn
        have e1 : (n == p) = false := beq_eq_false_iff_ne.mpr (hn n List.mem_cons_self)
        rw [List.filterMap_cons, List.filterMap_cons, ihl fun m hm => hn m (List.mem_cons_of_mem _ hm)]
        simp only [List.zip_cons_cons, List.lookup_cons, e1]
    have := key ps fun n hn => by
      rintro rfl
      exact h1 hn
    rw [this, ih]
theorem bind_all {x qual : Str} {params : Arguments} {body : List Stmt} {scope : Scope} (kV doc pm : Value) (an : Option Addr) (cdv ct : Value) (us : List Value) (ps : List Str)
    (h1 : params.posonlyargs = []) (h2 : params.args.map (·.arg) = ps) (h3 : params.vararg = none) (h4 : params.kwonlyargs = []) (h5 : params.kwarg = none) (nd : ps.Nodup) (hl : us.length = ps.length) :
    bindArgs (PySem.W.fnOf x qual params body scope .none kV doc pm an cdv ct) ⟨us, []⟩ = pure (ps.zip us) := by
  obtain ⟨po, as, va, ko, kd, kw, df⟩ := params
  subst h1 h3 h4 h5 h2
  have hl : us.length = (as.map (·.arg)).length := hl
  have hm : (List.filter (fun n => (List.lookup n ((as.map (·.arg)).zip us)).isNone) (as.map (·.arg))) = [] := by
    rw [List.filter_eq_nil_iff]
    intro n hn
    rw [zip_look hl hn]
    exact Bool.false_ne_true
  have hz := zip_map hl nd
  have hl2 : us.length = as.length := by simpa using hl
  unfold bindArgs
  simp [PySem.W.fnOf, seqItems?, hl2]
  split
  · rename_i hc
    exfalso
    revert hc
    rw [show (#[] : Array Value).size = 0 from rfl, List.take_of_length_le (by simp)]
    simp only [List.map_nil, List.nil_append, hm]
    simp
  · have e1 : (notAStandIn Value.none : Sem Unit) = pure () := rfl
    rw [e1]
    have hz2 : List.filterMap ((fun n => Option.map (fun x => (n, x)) (List.lookup n ((List.map (fun x => x.arg) as).zip us))) ∘ fun x => x.arg) as = (List.map (fun x => x.arg) as).zip us := by
      rw [← List.filterMap_map]
      exact hz
    simp [hz2]

/-! ### a program's defs -/
structure PD where
  x : Str
  st : Stmt
  N : List Str
  m : MF
def PD.ps (p : PD) : List Str := p.N.take p.m.np
def PD.dd (p : PD) : He.DefD := ⟨(p.x, none), p.x, p.x, defArgs p.st, defBody p.st, defScope p.st, [], []⟩
def scB (N : List Str) (np : Nat) (sc : Scope) : Bool := (match sc.kind with | .function => true | _ => false) && (!sc.isCoroutine && (!sc.isGenerator && (decide N.Nodup && (decide (np ≤ N.length) &&
  ((N.take np).all (fun x => isK sc x .local || isK sc x .cell) && sc.names.all fun y => (match y.2 with | .free => false | _ => true))))))
theorem scB_ok {N : List Str} {np : Nat} {sc : Scope} (h : scB N np sc = true) : FnScope N (N.take np) sc := by
  obtain ⟨h1, g1⟩ := ba h
  obtain ⟨h2, g2⟩ := ba g1
  obtain ⟨h3, g3⟩ := ba g2
  obtain ⟨h4, g4⟩ := ba g3
  obtain ⟨h5, g5⟩ := ba g4
  obtain ⟨h6, h7⟩ := ba g5
  refine ⟨?_, by simpa using h2, by simpa using h3, of_decide_eq_true h4, ?_, fun x hx => ?_, fun y hy e => ?_⟩
  · split at h1
    · assumption
    · cases h1
  · rw [List.length_take, Nat.min_eq_left (of_decide_eq_true h5)]
  · have q := List.all_eq_true.mp h6 x hx
    rw [Bool.or_eq_true] at q
    exact q.imp (fun z => of_decide_eq_true z) fun z => of_decide_eq_true z
  · have q := List.all_eq_true.mp h7 y hy
    rw [e] at q
    cases q
def arB (a : Arguments) (ps : List Str) : Bool := a.posonlyargs.isEmpty && (decide (a.args.map (·.arg) = ps) && (a.vararg.isNone && (a.kwonlyargs.isEmpty && a.kwarg.isNone)))
def PD.ok (fn gn : List Str) (p : PD) : Bool := scB p.N p.m.np (defScope p.st) && (arB (defArgs p.st) p.ps && (decide (p.m.ns = p.N.length) && chkB fn gn p.N (defScope p.st) p.m.body (defBody p.st)))
theorem PD.binds {K : PySem.W.Frag} {fn gn : List Str} {p : PD} (h : p.ok fn gn = true) {f : Addr} {fd : FuncData} (F : FunD K p.x p.x (defArgs p.st) (defBody p.st) (defScope p.st) [] [] f fd) : Binds K fd p.ps [] := by
  obtain ⟨h1, g1⟩ := ba h
  obtain ⟨h2, g2⟩ := ba g1
  obtain ⟨a1, b1⟩ := ba h2
  obtain ⟨a2, b2⟩ := ba b1
  obtain ⟨a3, b3⟩ := ba b2
  obtain ⟨a4, a5⟩ := ba b3
  have nd : p.ps.Nodup := (scB_ok h1).nd.sublist (List.take_sublist _ _)
  exact F.bindsN fun kV doc pm an cdv ct us hl => bind_all kV doc pm an cdv ct us p.ps (by simpa using a1) (of_decide_eq_true a2) (by simpa using a3) (by simpa using a4) (by simpa using a5) nd hl
theorem PD.bindsA {K : PySem.W.Frag} {fn gn : List Str} {p : PD} (h : p.ok fn gn = true) {f : Addr} {fd : FuncData} (F : FunD K p.x p.x (defArgs p.st) (defBody p.st) (defScope p.st) [] [] f fd) (s : Shared) (us : List Value) (hl : us.length = p.ps.length) : BindsTo s fd ⟨us, []⟩ (p.ps.zip us) := by
  obtain ⟨h1, g1⟩ := ba h
  obtain ⟨h2, g2⟩ := ba g1
  obtain ⟨a1, b1⟩ := ba h2
  obtain ⟨a2, b2⟩ := ba b1
  obtain ⟨a3, b3⟩ := ba b2
  obtain ⟨a4, a5⟩ := ba b3
  have nd : p.ps.Nodup := (scB_ok h1).nd.sublist (List.take_sublist _ _)
  exact F.bindsA (fun kV doc pm an cdv ct us hl => bind_all kV doc pm an cdv ct us p.ps (by simpa using a1) (of_decide_eq_true a2) (by simpa using a3) (by simpa using a4) (by simpa using a5) nd hl) s us hl
section
variable {P : Program} {w : World} {K : PySem.W.Frag} {mg : Str → Option Value} {base : Heap} {ps : List PD} {gn : List Str} {gls : List D}
theorem rs_start {loc : List Addr} {H : Hp} {ds : List D} {vs : List V} {N : List Str} {ns np : Nat} (r : RDs K loc H ds vs) (hn : ns = N.length) (hp : ds.length = np) (hle : np ≤ N.length) : RS K loc H (ds.map some ++ List.replicate (ns - np) none) (L2.start N vs) := by
  have hl := r.length
  refine ⟨by unfold L2.start; simp [hl, hn]; omega, fun i d e => ?_⟩
  by_cases hi : i < ds.length
  · rw [List.getElem?_append_left (by simpa using hi), List.getElem?_map] at e
    cases g : ds[i]? with
    | none => rw [g] at e; cases e
    | some z =>
      rw [g] at e
      cases e
      obtain ⟨v, hv, rv⟩ := r.at_ g
      exact ⟨v, by unfold L2.start; rw [List.getElem?_append_left (by simp; omega), List.getElem?_map, hv]; rfl, rv⟩
  · rw [List.getElem?_append_right (by simpa using hi), List.getElem?_replicate] at e
    split at e <;> cases e
/-- what is known of the program's top -/
structure Top (K : PySem.W.Frag) (mg : Str → Option Value) (ps : List PD) (gn : List Str) (gls : List D) : Prop where
  blt : ∀ x ∈ bltNames, mg x = none
  fns : ∀ (f : Nat) (p : PD), ps[f]? = some p → ∃ a fd, mg p.x = some (.ref a) ∧ FunD K p.x p.x (defArgs p.st) (defBody p.st) (defScope p.st) [] [] a fd
  cns : ∀ (i : Nat) (x : Str) (d : D), gn[i]? = some x → gls[i]? = some d → ∃ u v, mg x = some u ∧ RelV v u ∧ ∀ loc H, RD K loc H d v
theorem gok_of {tb : List MF} {k : Nat} (T : Top K mg ps gn gls) (h : ∀ p ∈ ps, p.ok (ps.map (·.x)) gn = true)
    (F : ∀ (f : Nat) (p : PD) (a : Addr) (fd : FuncData), ps[f]? = some p → FunD K p.x p.x (defArgs p.st) (defBody p.st) (defScope p.st) [] [] a fd → FnOk P w K mg base CX0 k a fd p.ps (lfP K (run gls tb k f))) : Gok (ps.map (·.x)) gn gls tb P w K mg base k := by
  refine ⟨T.blt, fun f x e => ?_, T.cns⟩
  rw [List.getElem?_map] at e
  cases g : ps[f]? with
  | none => rw [g] at e; cases e
  | some p =>
    rw [g] at e
    cases e
    obtain ⟨a, fd, hm, D⟩ := T.fns f p g
    exact ⟨a, fd, p.ps, hm, D.kp, PD.binds (h p (List.mem_of_getElem? g)) D, F f p a fd g D⟩
theorem fn_ok (T : Top K mg ps gn gls) (h : ∀ p ∈ ps, p.ok (ps.map (·.x)) gn = true) : ∀ (k f : Nat) (p : PD) (a : Addr) (fd : FuncData), ps[f]? = some p → FunD K p.x p.x (defArgs p.st) (defBody p.st) (defScope p.st) [] [] a fd → FnOk P w K mg base CX0 k a fd p.ps (lfP K (run gls (ps.map (·.m)) k f))
  | 0, f, p, a, fd, g, F => by
    have no : ∀ vs H Q E, ¬ lfP K (run gls (ps.map (·.m)) 0 f) vs H Q E := fun vs H Q E ⟨_, _, _, _, _, _, z, _⟩ => z
    exact ⟨fun vs H Q E z => absurd z (no vs H Q E), fun A outer s H args us vs Q E _ _ _ _ z => absurd z (no vs H Q E)⟩
  | k + 1, f, p, a, fd, g, F => by
    have ih := gok_of (P := P) (w := w) (base := base) T h (fn_ok T h k)
    have hok := h p (List.mem_of_getElem? g)
    obtain ⟨h1, g1⟩ := ba hok
    obtain ⟨h2, g2⟩ := ba g1
    obtain ⟨h3, h4⟩ := ba g2
    have S := scB_ok h1
    have hle : p.m.np ≤ p.N.length := by
      obtain ⟨_, z1⟩ := ba h1
      obtain ⟨_, z2⟩ := ba z1
      obtain ⟨_, z3⟩ := ba z2
      obtain ⟨_, z4⟩ := ba z3
      obtain ⟨z5, _⟩ := ba z4
      exact of_decide_eq_true z5
    have gm : (ps.map (·.m))[f]? = some p.m := by rw [List.getElem?_map, g]; rfl
    have un : ∀ {ds : List D} {h : Hh} {Q : Kd} {E : Ex}, run gls (ps.map (·.m)) (k + 1) f ds h Q E → ds.length = p.m.np ∧ wB gls (run gls (ps.map (·.m)) k) E p.m.body { nx := fun _ h' => Q .non h', rt := Q, bk := fun _ _ => False, ct := fun _ _ => False } (ds.map some ++ List.replicate (p.m.ns - p.m.np) none) h := fun {ds h Q E} z => by
      unfold run at z
      rw [gm] at z
      obtain ⟨c, z⟩ := chk_e z
      exact ⟨of_decide_eq_true c, z⟩
    refine F.ok S (fun vs H Q E ⟨loc, ds, hh, Q', r, _, z, _⟩ => ?_) fun cdv A outer s H vs Q E hr ⟨loc, ds, hh, Q', r, rh, z, kk⟩ => ?_
    · obtain ⟨e1, _⟩ := un z
      rw [r.length, e1]
      unfold PD.ps
      rw [List.length_take, Nat.min_eq_left hle]
    · obtain ⟨e1, z⟩ := un z
      have C : Cok (ps.map (·.x)) gn gls (ps.map (·.m)) k p.N (defScope p.st) true (cxOf CX0 P w K mg base p.N p.x (defScope p.st) a cdv A outer s H E).nox := ⟨rfl, rfl, S.nd, rfl, S.kind, fun _ _ => rfl, hr, PassesOwn.never, ih⟩
      have B := sndBl gls (ps.map (·.m)) p.m.body p.N (defScope p.st) _ (defBody p.st) C h4
      exact ⟨_, B.nox, loc, _, hh, _, rs_start r (of_decide_eq_true h3) e1 hle, rh, z, ⟨fun σ' h' s' H' loc' q x rh' rs' => kk _ _ _ _ loc' q x rh' rd_non, kk, fun _ _ _ _ _ q => q.elim, fun _ _ _ _ _ q => q.elim⟩⟩
end

/-! ### the head's facts -/
mutual
def valB (K : PySem.W.Frag) : D → Value → Bool
  | .non, u => (match u with | .none => true | _ => false)
  | .bl b, u => (match u with | .bool c => decide (b = c) | _ => false)
  | .int i, u => (match u with | .int j _ => decide (i = j) | _ => false)
  | .str x, u => (match u with | .str y _ => decide (x = y) | _ => false)
  | .tup ds, u => (match u with
    | .ref a => (match K.lookup a with
      | some ⟨.type c, _, .seq its _, _⟩ => decide (c = "tuple") && (decide (its.size ≤ sizeLine) && valsB K ds its.toList)
      | _ => false)
    | _ => false)
  | .ref _, _ => false
def valsB (K : PySem.W.Frag) : List D → List Value → Bool
  | [], us => us.isEmpty
  | d :: ds, us => (match us with
    | u :: us => valB K d u && valsB K ds us
    | [] => false)
end
mutual
theorem valB_ok {K : PySem.W.Frag} : ∀ (d : D) (u : Value), valB K d u = true → ∃ v, RelV v u ∧ ∀ loc H, RD K loc H d v
  | .non, u, h => by
    cases u <;> first | exact nc h | exact ⟨.non, rfl, fun _ _ => rd_non⟩
  | .bl b, u, h => by
    cases u <;> first | exact nc h | skip
    obtain rfl := of_decide_eq_true h
    exact ⟨.bl b, rfl, fun _ _ => rd_bl⟩
  | .int i, u, h => by
    cases u <;> first | exact nc h | skip
    obtain rfl := of_decide_eq_true h
    exact ⟨.int i, ⟨_, rfl⟩, fun _ _ => rd_int⟩
  | .str x, u, h => by
    cases u <;> first | exact nc h | skip
    obtain rfl := of_decide_eq_true h
    exact ⟨.str x, ⟨_, rfl⟩, fun _ _ => rd_str⟩
  | .tup ds, u, h => by
    cases u <;> first | exact nc h | skip
    rename_i a
    have h' : (match K.lookup a with
      | some ⟨.type c, _, .seq its _, _⟩ => decide (c = "tuple") && (decide (its.size ≤ sizeLine) && valsB K ds its.toList)
      | _ => false) = true := h
    split at h'
    · rename_i c od its n sl e
      obtain ⟨h1, g1⟩ := ba h'
      obtain ⟨h2, h3⟩ := ba g1
      obtain ⟨vs, rv, q⟩ := valsB_ok ds its.toList h3
      exact ⟨.ref a, rfl, fun loc H => rd_tup (.inr ⟨_, its, n, e, congrArg Value.type (of_decide_eq_true h1), rfl, of_decide_eq_true h2, rv⟩) (q loc H)⟩
    · exact nc h'
  | .ref _, _, h => nc h
theorem valsB_ok {K : PySem.W.Frag} : ∀ (ds : List D) (us : List Value), valsB K ds us = true → ∃ vs, Vals vs us ∧ ∀ loc H, RDs K loc H ds vs
  | [], [], _ => ⟨[], .nil, fun _ _ => RDs.nil⟩
  | [], _ :: _, h => nc h
  | _ :: _, [], h => nc h
  | d :: ds, u :: us, h => by
    obtain ⟨h1, h2⟩ := ba (show (valB K d u && valsB K ds us) = true from h)
    obtain ⟨v, r, q⟩ := valB_ok d u h1
    obtain ⟨vs, rs, qs⟩ := valsB_ok ds us h2
    exact ⟨v :: vs, .cons r rs, fun loc H => RDs.cons (q loc H) (qs loc H)⟩
end
def cnB (K : PySem.W.Frag) (x : Str) (d : D) : Bool := match PySem.W.nsIn K mainGlobals x with
  | some (some u) => valB K d u
  | _ => false
def obsM (cs : List (Str × D)) (ps : List PD) (K : PySem.W.Frag) : He.AlD := ((bltNames.all fun x => He.eqO (PySem.W.nsIn K mainGlobals x) (some none)) && ((cs.all fun c => cnB K c.1 c.2) && ps.all fun p => (He.Fa.glo p.x).ok K && p.dd.ok K), ps.map fun p => He.fnW K (p.x, none))
def valM (ps : List PD) : He.AlD := (true, ps.map fun p => p.dd.val)
def SaysM (cs : List (Str × D)) (ps : List PD) (K : PySem.W.Frag) : Prop := obsM cs ps K = valM ps
def obsMG (n : Nat) (cs : List (Str × D)) (ps : List PD) (g : Addr → Option Obj) : He.AlD := obsM cs ps (He.frG g (He.asD g n))
def hookM (n : Nat) (cs : List (Str × D)) (ps : List PD) : PySem.W.Hook where
  α := He.AlD
  obs := fun s => obsMG n cs ps s.heap.get?
  val := fun _ => valM ps
  says := fun _ h => ∃ K : PySem.W.Frag, K.In h ∧ SaysM cs ps K
  of := fun _ _ e => ⟨_, He.frG_in, e⟩
  keeps := fun _ _ _ ⟨K, hK, c⟩ k => ⟨K, PySem.W.Frag.In.keeps hK k, c⟩
theorem obsMG_eq {n : Nat} {cs : List (Str × D)} {ps : List PD} {g : Addr → Option Obj} {s : Shared} (h : ∀ a, g a = s.heap.get? a) : obsMG n cs ps g = (hookM n cs ps).obs s := by
  have e : g = s.heap.get? := funext h
  rw [e] <;> rfl
theorem top_of {cs : List (Str × D)} {ps : List PD} {K : PySem.W.Frag} {h : Heap} {mg : Str → Option Value} (X : K.In h) (G : h.Ns mainGlobals mg) (c : SaysM cs ps K) : Top K mg ps (cs.map (·.1)) (cs.map (·.2)) := by
  have c1 := congrArg (fun z : He.AlD => z.1) c
  have c2 : (ps.map fun p => He.fnW K (p.x, none)) = ps.map fun p => p.dd.val := congrArg (fun z : He.AlD => z.2) c
  obtain ⟨b1, g1⟩ := ba (show ((bltNames.all fun x => He.eqO (PySem.W.nsIn K mainGlobals x) (some none)) && ((cs.all fun c => cnB K c.1 c.2) && ps.all fun p => (He.Fa.glo p.x).ok K && p.dd.ok K)) = true from c1)
  obtain ⟨b2, b3⟩ := ba g1
  refine ⟨fun x hx => PySem.W.mg_none_of X G (He.eqO_ok (List.all_eq_true.mp b1 x hx)), fun f p e => ?_, fun i x d e1 e2 => ?_⟩
  · obtain ⟨q1, q2⟩ := ba (List.all_eq_true.mp b3 p (List.mem_of_getElem? e))
    have e3 : He.fnW K (p.x, none) = p.dd.val := by
      have := congrArg (fun l => l[f]?) c2
      simpa [e] using this
    obtain ⟨fd, F⟩ := He.DefD.funD (d := p.dd) e3 q2
    exact ⟨_, fd, He.glo_ok X G q1, F⟩
  · rw [List.getElem?_map] at e1 e2
    cases g : cs[i]? with
    | none => rw [g] at e1; cases e1
    | some cc =>
      rw [g] at e1 e2
      cases e1
      cases e2
      have q := List.all_eq_true.mp b2 cc (List.mem_of_getElem? g)
      unfold cnB at q
      split at q
      · rename_i u eu
        obtain ⟨v, r, rd⟩ := valB_ok cc.2 u q
        exact ⟨u, v, PySem.W.mg_of X G eu, r, rd⟩
      · exact nc q

/-! ### the law -/
theorem law_sp {K : PySem.W.Frag} {C : List D → Hh → Kd → Ex → Prop} {H : Hp} {a : Addr} {ns : List Int} (hO : Only H) (hS : SqL K H a (ns.map V.int)) (w : C [.ref 0] [.frz (ns.map D.int)] (fun d _ => d = .bl true) EX0) {E : XK} : lfP K C [.ref a] H (fun v _ => v = .bl true) E := by
  have fz : Fz K H a (ns.map V.int) := by
    rcases hS with (e | ⟨o, e⟩) | q
    · rcases hO a with z | ⟨o, xs, z⟩
      · rw [e] at z; cases z
      · rw [e] at z; cases z
    · exact .inl ⟨o, e⟩
    · exact .inr q
  have rds : ∀ ns : List Int, RDs K [a] H (ns.map D.int) (ns.map V.int) := by
    intro ns
    induction ns with
    | nil => exact RDs.nil
    | cons n ns ih => exact RDs.cons rd_int ih
  refine ⟨[a], [.ref 0], [.frz (ns.map D.int)], _, RDs.cons (rd_ref rfl) RDs.nil, ⟨rfl, fun n o e => ?_, fun i j b oi oj ei ej mi mj li lj => ?_⟩, w, fun d h' v H' loc' q x rh r => ?_⟩
  · cases n with
    | zero => cases e; exact ⟨a, rfl, _, fz, rds ns⟩
    | succ n => simp at e
  · cases i with
    | zero => cases ei; cases mi
    | succ i => simp at ei
  · have q' : d = .bl true := q
    subst q'
    exact r.bl_
theorem law_F {l : PySem.W.OpenLaw} {w : World} {h : Heap} {mg : Str → Option Value} {cs : List (Str × D)} {ps : List PD} {fa : Addr} {k iL : Nat} {p : PD} {x : Str} {n : Nat} (Y : ∃ K : PySem.W.Frag, K.In h ∧ SaysM cs ps K) (G : h.Ns mainGlobals mg) (hfa : mg p.x = some (.ref fa))
    (hp : ps[iL]? = some p) (hps : p.ps = [x]) (hall : (ps.all fun p => p.ok (ps.map (·.x)) (cs.map (·.1))) = true) (main : ∀ ns : List Int, ns.length ≤ n → run (cs.map (·.2)) (ps.map (·.m)) k iL [.ref 0] [.frz (ns.map D.int)] (fun d _ => d = .bl true) EX0) :
    ∃ (K : PySem.W.Frag) (fd : FuncData) (sp : Sp), K.In h ∧ (∀ (s : Shared) (u : Value), BindsTo s fd ⟨[u], []⟩ [(x, u)]) ∧
        (∀ (H : Hp) (a : Addr) (ns : List Int), ns.length ≤ n → Only H → SqL K H a (ns.map V.int) → sp [.ref a] H (fun v _ => v = .bl true) fun _ _ _ => False) ∧
        ∀ base : Heap, K.In base → base.Ns mainGlobals mg → FnOk l.prog w K mg base CX0 k fa fd [x] sp := by
  obtain ⟨K, X, c⟩ := Y
  have T := top_of X G c
  have hok := fun q hq => List.all_eq_true.mp hall q hq
  obtain ⟨a, fd, hm, F⟩ := T.fns iL p hp
  have e := hfa.symm.trans hm
  cases e
  have hb := PD.bindsA (hok p (List.mem_of_getElem? hp)) F
  rw [hps] at hb
  refine ⟨K, fd, lfP K (run (cs.map (·.2)) (ps.map (·.m)) k iL), X, fun s u => hb s [u] rfl, fun H a ns hn hO hS => law_sp hO hS (main ns hn), fun base _ _ => ?_⟩
  have q := fn_ok (P := l.prog) (w := w) (base := base) T hok k iL p fa fd hp F
  rw [hps] at q
  exact q
theorem run_of {gls : List D} {tb : List MF} {n f : Nat} {ds : List D} {h : Hh} {Q : Kd} {X : Ex} {m : MF} {σ : Sg} (e : tb[f]? = some m) (l : ds.length = m.np) (s : ds.map some ++ List.replicate (m.ns - m.np) none = σ)
    (w : wB gls (run gls tb n) X m.body { nx := fun _ h' => Q .non h', rt := Q, bk := fun _ _ => False, ct := fun _ _ => False } σ h) : run gls tb (n + 1) f ds h Q X := by
  unfold run
  rw [e]
  subst s
  exact chk_i (by simp [l]) w
end Mi

set_option Elab.async false
set_option linter.all false
set_option maxRecDepth 100000
/-! Mi: how its runs are followed. -/
namespace Mi
open PySem PySem.Spec PyProof.Rows L2
/-- all but the places in S stands as it stood -/
structure Keep (S : List Nat) (h h' : Hh) : Prop where
  len : h.length ≤ h'.length
  at_ : ∀ (i : Nat) (o : MO), h[i]? = some o → i ∉ S → h'[i]? = some o
theorem Keep.refl {S : List Nat} {h : Hh} : Keep S h h := ⟨Nat.le_refl _, fun _ _ e _ => e⟩
theorem Keep.new {S : List Nat} {h : Hh} {o : MO} : Keep S h (h ++ [o]) := ⟨by simp, fun i x e _ => by rw [List.getElem?_append_left (List.getElem?_eq_some_iff.mp e).1]; exact e⟩
theorem Keep.set {S : List Nat} {h : Hh} {n : Nat} {o : MO} (hn : n ∈ S) : Keep S h (h.set n o) := ⟨by simp, fun i x e z => by
  have : n ≠ i := fun q => z (q ▸ hn)
  rw [List.getElem?_set_ne this]; exact e⟩
/-- one step more: what it changed is in S, or came behind h -/
theorem Keep.step {S T : List Nat} {h h' h2 : Hh} (b : Keep T h' h2) (a : Keep S h h') (s : ∀ i ∈ T, i ∈ S ∨ h.length ≤ i) : Keep S h h2 := ⟨Nat.le_trans a.len b.len, fun i o e n => b.at_ i o (a.at_ i o e n) fun z => by
  rcases s i z with q | q
  · exact n q
  · exact absurd (List.getElem?_eq_some_iff.mp e).1 (by omega)⟩
theorem Keep.get {S : List Nat} {h h' : Hh} {i : Nat} {o : MO} (a : Keep S h h') (e : h[i]? = some o) (n : i ∉ S) : h'[i]? = some o := a.at_ i o e n
theorem lt_of {h : Hh} {i : Nat} {o : MO} (e : h[i]? = some o) : i < h.length := (List.getElem?_eq_some_iff.mp e).1
theorem get_new {h : Hh} {o : MO} : (h ++ [o])[h.length]? = some o := by simp
theorem get_set {h : Hh} {n : Nat} {o x : MO} (e : h[n]? = some x) : (h.set n o)[n]? = some o := by
  rw [List.getElem?_set_self (lt_of e)]
theorem rdL_i {h : Hh} {n : Nat} {xs : List D} {K : List D → Prop} (e : h[n]? = some (.lst xs)) (k : K xs) : rdL h n K := rdO_i e k
/-- a new object: its place, the heap behind it -/
theorem new_i {h : Hh} {o : MO} {Q : Kd} (w : ∀ (p : Nat) (h' : Hh), h'[p]? = some o → h.length ≤ p → p < h'.length → h.length ≤ h'.length → Keep [] h h' → Q (.ref p) h') : new o h Q := new_b (w _ _ get_new (Nat.le_refl _) (by simp) (by simp) Keep.new)
/-- an object is changed -/
theorem put_i {h : Hh} {n : Nat} {o x : MO} {P : Hh → Prop} (e : h[n]? = some x) (w : ∀ h' : Hh, h'[n]? = some o → h.length ≤ h'.length → Keep [n] h h' → P h') : put h n o P := put_b (w _ (get_set e) (by simp) (Keep.set (by simp)))
theorem getAt_nat {xs : List D} {j : Nat} {d : D} (e : xs[j]? = some d) : getAt xs (j : Int) = some d := by
  have hl := (List.getElem?_eq_some_iff.mp e).1
  unfold getAt ixAt
  rw [if_pos (by omega), if_pos (by omega)]
  simpa using e
theorem getAt_end (xs : List D) (d : D) : getAt (xs ++ [d]) (-1) = some d := by
  unfold getAt ixAt
  rw [if_neg (by decide), if_pos (by simp; omega)]
  have : ((-1 : Int) + ((xs ++ [d]).length : Int)).toNat = xs.length := by simp; omega
  simp only [Option.bind_some, this]
  simp
/-! ### loops by what holds between two turns -/
/-- I: what is left, the slots, the heap -/
theorem loop_i {t : D → Sg → Hh → (Sg → Hh → Prop) → Prop} {b : Es → Sg → Hh → Prop} {R : Es} (I : List D → Sg → Hh → Prop)
    (turn : ∀ (x : D) (r : List D) (σ : Sg) (h : Hh) (K : Sg → Hh → Prop), I (x :: r) σ h → (∀ σ h, I r σ h → K σ h) → t x σ h fun σ1 h1 => b { nx := K, rt := R.rt, bk := R.nx, ct := K } σ1 h1)
    (fin : ∀ σ h, I [] σ h → R.nx σ h) : ∀ (xs : List D) (σ : Sg) (h : Hh), I xs σ h → loopS t b R xs σ h
  | [], σ, h, i => fin σ h i
  | x :: xs, σ, h, i => turn x xs σ h _ i fun σ h j => loop_i I turn fin xs σ h j
/-- a list's loop, the list unchanged -/
theorem loopL_i {t : D → Sg → Hh → (Sg → Hh → Prop) → Prop} {b : Es → Sg → Hh → Prop} {R : Es} {n : Nat} (ys : List D) (I : List D → Sg → Hh → Prop) (hI : ∀ r σ h, I r σ h → h[n]? = some (.lst ys))
    (turn : ∀ (x : D) (r : List D) (σ : Sg) (h : Hh) (K : Sg → Hh → Prop), I (x :: r) σ h → (∀ σ h, I r σ h → K σ h) → t x σ h fun σ1 h1 => b { nx := K, rt := R.rt, bk := R.nx, ct := K } σ1 h1)
    (fin : ∀ σ h, I [] σ h → R.nx σ h) : ∀ (xs : List D) (k i : Nat) (σ : Sg) (h : Hh), xs = ys.drop i → xs.length < k → I xs σ h → loopL t b R n k i σ h
  | [], 0, _, _, _, _, hk, _ => absurd hk (by simp)
  | _ :: _, 0, _, _, _, _, hk, _ => absurd hk (by simp)
  | [], k + 1, i, σ, h, e, _, j => by
    unfold loopL
    rw [hI _ _ _ j]
    have : ys[i]? = none := by
      have := congrArg List.length e
      simp at this
      simpa using (by omega : ys.length ≤ i)
    simp only [this]
    exact fin σ h j
  | x :: xs, k + 1, i, σ, h, e, hk, j => by
    unfold loopL
    rw [hI _ _ _ j]
    have e1 : ys[i]? = some x := by
      have := congrArg List.head? e
      simpa [List.head?_drop] using this.symm
    have e2 : xs = ys.drop (i + 1) := by
      have := congrArg List.tail e
      simpa [List.tail_drop] using this
    simp only [e1]
    exact turn x xs σ h _ j fun σ h j => loopL_i ys I hI turn fin xs k (i + 1) σ h e2 (by simp at hk; omega) j
theorem while_i {c : Sg → Hh → (Bool → Hh → Prop) → Prop} {b : Es → Sg → Hh → Prop} {R : Es} (I : Nat → Sg → Hh → Prop)
    (turn : ∀ (m : Nat) (σ : Sg) (h : Hh) (K : Sg → Hh → Prop), I m σ h → (∀ m' σ h, m' < m → I m' σ h → K σ h) → c σ h fun d h1 => br d (b { nx := K, rt := R.rt, bk := R.nx, ct := K } σ h1) (R.nx σ h1)) :
    ∀ (k m : Nat) (σ : Sg) (h : Hh), m < k → I m σ h → loopW c b R k σ h
  | 0, _, _, _, e, _ => absurd e (Nat.not_lt_zero _)
  | k + 1, m, σ, h, e, j => turn m σ h _ j fun m' σ' h' lt j' => while_i I turn k m' σ' h' (by omega) j'
theorem fuel_lt {m : Nat} (h : m < 1000000000) : m < fuel := by unfold fuel; exact h
/-- a comprehension: I: what is left, what is made, the heap -/
theorem comp_i {t : D → Sg → Hh → (Sg → Hh → Prop) → Prop} {c : Sg → Hh → (Bool → Hh → Prop) → Prop} {e : Sg → Hh → Kd → Prop} {σ0 : Sg} {p : Nat} {Q : Kd} (I : List D → List D → Hh → Prop)
    (turn : ∀ (x : D) (r acc : List D) (h : Hh) (K : Hh → Prop), h[p]? = some (.lst acc) → I (x :: r) acc h → (∀ acc h, h[p]? = some (.lst acc) → I r acc h → K h) →
      t x σ0 h fun σ1 h1 => c σ1 h1 fun d h2 => br d (e σ1 h2 fun y h3 => rdL h3 p fun acc => chk (decide (acc.length < sizeLine)) (put h3 p (.lst (acc ++ [y])) K)) (K h2))
    (fin : ∀ acc h, h[p]? = some (.lst acc) → I [] acc h → Q (.ref p) h) : ∀ (xs acc : List D) (h : Hh), h[p]? = some (.lst acc) → I xs acc h → compS t c e σ0 p Q xs h
  | [], acc, h, e1, i => fin acc h e1 i
  | x :: xs, acc, h, e1, i => turn x xs acc h _ e1 i fun acc h e2 j => comp_i I turn fin xs acc h e2 j
theorem compL_i {t : D → Sg → Hh → (Sg → Hh → Prop) → Prop} {c : Sg → Hh → (Bool → Hh → Prop) → Prop} {e : Sg → Hh → Kd → Prop} {σ0 : Sg} {p : Nat} {Q : Kd} {n : Nat} (ys : List D) (I : List D → List D → Hh → Prop) (hI : ∀ r a h, I r a h → h[n]? = some (.lst ys))
    (turn : ∀ (x : D) (r acc : List D) (h : Hh) (K : Hh → Prop), h[p]? = some (.lst acc) → I (x :: r) acc h → (∀ acc h, h[p]? = some (.lst acc) → I r acc h → K h) →
      t x σ0 h fun σ1 h1 => c σ1 h1 fun d h2 => br d (e σ1 h2 fun y h3 => rdL h3 p fun acc => chk (decide (acc.length < sizeLine)) (put h3 p (.lst (acc ++ [y])) K)) (K h2))
    (fin : ∀ acc h, h[p]? = some (.lst acc) → I [] acc h → Q (.ref p) h) : ∀ (xs : List D) (k i : Nat) (acc : List D) (h : Hh), xs = ys.drop i → xs.length < k → h[p]? = some (.lst acc) → I xs acc h → compL t c e σ0 p Q n k i h
  | [], 0, _, _, _, _, hk, _, _ => absurd hk (by simp)
  | _ :: _, 0, _, _, _, _, hk, _, _ => absurd hk (by simp)
  | [], k + 1, i, acc, h, e0, _, e1, j => by
    unfold compL
    rw [hI _ _ _ j]
    have : ys[i]? = none := by
      have := congrArg List.length e0
      simp at this
      simpa using (by omega : ys.length ≤ i)
    simp only [this]
    exact fin acc h e1 j
  | x :: xs, k + 1, i, acc, h, e0, hk, e1, j => by
    unfold compL
    rw [hI _ _ _ j]
    have e3 : ys[i]? = some x := by
      have := congrArg List.head? e0
      simpa [List.head?_drop] using this.symm
    have e2 : xs = ys.drop (i + 1) := by
      have := congrArg List.tail e0
      simpa [List.tail_drop] using this
    simp only [e3]
    exact turn x xs acc h _ e1 j fun acc h e2' j' => compL_i ys I hI turn fin xs k (i + 1) acc h e2 (by simp at hk; omega) e2' j'
end Mi
namespace Mi
open PySem PySem.Spec PyProof.Rows L2
theorem range_cons {x : D} {r : List D} {m : Nat} {lo : Int} {i : Nat} (e : x :: r = range m lo i) : ∃ m', m = m' + 1 ∧ x = .int (lo + i) ∧ r = range m' lo (i + 1) := by
  cases m with
  | zero => cases e
  | succ m => unfold range at e; cases e; exact ⟨m, rfl, rfl, rfl⟩
theorem range_nil {m : Nat} {lo : Int} {i : Nat} (e : [] = range m lo i) : m = 0 := by
  cases m with
  | zero => rfl
  | succ m => unfold range at e; cases e
theorem mulOk_r {i j : Int} (h : j.natAbs < 2 ^ 64) : mulOk i j = true := by
  unfold mulOk
  rw [decide_eq_true h]
  simp
theorem mulOk_l {i j : Int} (h : i.natAbs < 2 ^ 64) : mulOk i j = true := by
  unfold mulOk
  rw [decide_eq_true h]
  simp
theorem lenOk_le {n : Nat} (h : n ≤ 16777216) : lenOk n = true := by
  unfold lenOk
  rw [sizeLine_eq]
  exact decide_eq_true h
theorem small_lt {n : Nat} (h : n < 16777216) : decide (n < sizeLine) = true := by
  rw [sizeLine_eq]
  exact decide_eq_true h
theorem intsOf_map : ∀ ms : List Int, intsOf (ms.map D.int) = some ms
  | [] => rfl
  | m :: ms => by
    show (intsOf (ms.map D.int)).map (m :: ·) = _
    rw [intsOf_map ms]
    rfl
theorem maxI_max : ∀ (m : Int) (ms : List Int), maxI m ms = ms.foldl max m
  | m, [] => rfl
  | m, x :: xs => by
    unfold maxI
    rw [maxI_max]
    show _ = xs.foldl max (max m x)
    congr 1
    omega
theorem getAt_map {xs : List D} {i : Nat} {d : D} (e : xs[i]? = some d) {k : Int} (hk : k = i) : getAt xs k = some d := by
  rw [hk]
  exact getAt_nat e
end Mi

set_option Elab.async false
set_option linter.all false
set_option maxRecDepth 100000
set_option maxHeartbeats 4000000
namespace Lw
open PySem PySem.Spec PyProof.Rows L2 Mi
def w_hold : Str := ⟨⟨[104, 111, 108, 100]⟩⟩
def w_while : Str := ⟨⟨[119, 104, 105, 108, 101]⟩⟩
def w_if : Str := ⟨⟨[105, 102]⟩⟩
def w_call : Str := ⟨⟨[99, 97, 108, 108]⟩⟩
def w_set : Str := ⟨⟨[115, 101, 116]⟩⟩
def w_var : Str := ⟨⟨[118, 97, 114]⟩⟩
def w_return : Str := ⟨⟨[114, 101, 116, 117, 114, 110]⟩⟩
def w_same : Str := ⟨⟨[115, 97, 109, 101]⟩⟩
def w_less : Str := ⟨⟨[108, 101, 115, 115]⟩⟩
def w_mul : Str := ⟨⟨[109, 117, 108]⟩⟩
def w_sub : Str := ⟨⟨[115, 117, 98]⟩⟩
def w_add : Str := ⟨⟨[97, 100, 100]⟩⟩
def w_in : Str := ⟨⟨[105, 110]⟩⟩
def w_name : Str := ⟨⟨[110, 97, 109, 101]⟩⟩
def w_number : Str := ⟨⟨[110, 117, 109, 98, 101, 114]⟩⟩
def w_out : Str := ⟨⟨[111, 117, 116]⟩⟩
def w_f : Str := ⟨⟨[102]⟩⟩
def w_a : Str := ⟨⟨[97]⟩⟩
def w_g : Str := ⟨⟨[103]⟩⟩
def w_x1 : Str := ⟨⟨[120, 49]⟩⟩
def w_v3 : Str := ⟨⟨[118, 51]⟩⟩
def w_v2 : Str := ⟨⟨[118, 50]⟩⟩
def w_v1 : Str := ⟨⟨[118, 49]⟩⟩
def w_abcdefgh : Str := ⟨⟨[97, 98, 99, 100, 101, 102, 103, 104]⟩⟩
def w_h : Str := ⟨⟨[104]⟩⟩
def topS (i : Nat) : Stmt := PySem.Challenge.pw_placesforgood_k12_needs.main.body.getD i (.Pass ⟨0, 0, 0, 0⟩)
def b_own_blocks : MB := (.cons (.asg (.name 1) (.ix (.var 0) (.int 0))) (.cons (.ife (.cmp .eq (.var 1) (.str w_if)) (.cons (.ret (.lst (.cons (.ix (.var 0) (.int 2)) (.cons (.ix (.var 0) (.int 3)) .nil)))) .nil) .nil) (.cons (.ife (.cmp .eq (.var 1) (.str w_while)) (.cons (.ret (.lst (.cons (.ix (.var 0) (.int 2)) .nil))) .nil) .nil) (.cons (.ret (.ife (.cmp .eq (.var 1) (.str w_hold)) (.lst (.cons (.ix (.var 0) (.int 1)) .nil)) (.lst .nil))) .nil))))
def m_own_blocks : MF := ⟨1, 2, b_own_blocks⟩
def b_args_need : MB := (.cons (.asg (.name 2) (.lst (.cons (.int 0) .nil))) (.cons (.forr (.name 3) (.rng1 (.blt .len (.cons (.var 0) .nil))) (.cons (.expr (.meth .append (.var 2) (.cons (.blt .max (.cons (.bin .add (.bin .add (.var 1) (.var 3)) (.int 1)) (.cons (.call 2 (.cons (.ix (.var 0) (.var 3)) (.cons (.bin .add (.var 1) (.var 3)) .nil))) .nil))) .nil))) .nil)) (.cons (.ret (.blt .max (.cons (.var 2) .nil))) .nil)))
def m_args_need : MF := ⟨2, 4, b_args_need⟩
def b_expression_need : MB := (.cons (.ife (.cmp .isin (.ix (.var 0) (.int 0)) (.gl 0)) (.cons (.ret (.blt .max (.cons (.bin .add (.var 1) (.int 2)) (.cons (.call 2 (.cons (.ix (.var 0) (.int 1)) (.cons (.var 1) .nil))) (.cons (.call 2 (.cons (.ix (.var 0) (.int 2)) (.cons (.bin .add (.var 1) (.int 1)) .nil))) .nil))))) .nil) .nil) (.cons (.ret (.ife (.cmp .eq (.ix (.var 0) (.int 0)) (.str w_call)) (.call 1 (.cons (.ix (.var 0) (.int 2)) (.cons (.var 1) .nil))) (.int 0))) .nil))
def m_expression_need : MF := ⟨2, 2, b_expression_need⟩
def b_statement_need : MB := (.cons (.asg (.name 1) (.ix (.var 0) (.int 0))) (.cons (.asg (.name 2) (.lc (.call 4 (.cons (.var 3) .nil)) (.name 3) (.seq (.call 0 (.cons (.var 0) .nil))) .none)) (.cons (.ife (.cmp .isin (.var 1) (.tup (.cons (.str w_var) (.cons (.str w_set) .nil)))) (.cons (.expr (.meth .append (.var 2) (.cons (.call 2 (.cons (.ix (.var 0) (.int 2)) (.cons (.int 0) .nil))) .nil))) .nil) (.cons (.ife (.cmp .eq (.var 1) (.str w_call)) (.cons (.expr (.meth .append (.var 2) (.cons (.call 1 (.cons (.ix (.var 0) (.int 2)) (.cons (.int 0) .nil))) .nil))) .nil) (.cons (.ife (.cmp .eq (.var 1) (.str w_return)) (.cons (.expr (.meth .append (.var 2) (.cons (.call 2 (.cons (.ix (.var 0) (.int 1)) (.cons (.int 0) .nil))) .nil))) .nil) (.cons (.ife (.cmp .ne (.var 1) (.str w_hold)) (.cons (.expr (.meth .append (.var 2) (.cons (.blt .max (.cons (.int 1) (.cons (.call 2 (.cons (.ix (.var 0) (.int 1)) (.cons (.int 0) .nil))) .nil))) .nil))) .nil) .nil) .nil)) .nil)) .nil)) (.cons (.ret (.blt .max (.cons (.bin .add (.var 2) (.lst (.cons (.int 0) .nil))) .nil))) .nil))))
def m_statement_need : MF := ⟨1, 4, b_statement_need⟩
def b_block_need : MB := (.cons (.ret (.blt .max (.cons (.bin .add (.lst (.cons (.int 0) .nil)) (.lc (.call 3 (.cons (.var 1) .nil)) (.name 1) (.seq (.var 0)) .none)) .nil))) .nil)
def m_block_need : MF := ⟨1, 2, b_block_need⟩
def b_law_spring : MB := (.cons (.asg (.name 1) (.lst .nil)) (.cons (.asg (.name 2) (.int 60013)) (.cons (.forr (.name 3) (.seq (.sl (.var 0) .none (.some (.int 64)))) (.cons (.asg (.name 4) (.bin .mod (.blt .abs (.cons (.blt .int (.cons (.var 3) .nil)) .nil)) (.bin .mul (.bin .pow (.int 10) (.int 58)) (.bin .pow (.int 10) (.int 58))))) (.cons (.asg (.name 2) (.bin .mod (.blt .int (.cons (.bin .add (.bin .add (.bin .mul (.var 2) (.int 33391)) (.bin .mod (.var 4) (.int 1000033))) (.int 29)) .nil)) (.int 2147483587))) (.cons (.whl (.cmp .ge (.var 4) (.bin .pow (.int 10) (.int 16))) (.cons (.expr (.meth .append (.var 1) (.cons (.bin .mod (.blt .int (.cons (.var 4) .nil)) (.int 55440)) .nil))) (.cons (.asg (.name 4) (.bin .fdiv (.var 4) (.int 55440))) .nil))) .nil)))) (.cons (.ret (.lst (.cons (.var 1) (.cons (.var 2) .nil)))) .nil))))
def m_law_spring : MF := ⟨1, 5, b_law_spring⟩
def b_law_draw : MB := (.cons (.ife (.cmp .gt (.blt .len (.cons (.ix (.var 0) (.int 0)) .nil)) (.int 0)) (.cons (.ret (.bin .mod (.blt .int (.cons (.meth .pop (.ix (.var 0) (.int 0)) .nil) .nil)) (.var 1))) .nil) .nil) (.cons (.asg (.sub (.var 0) (.int 1)) (.bin .mod (.blt .int (.cons (.bin .add (.bin .mul (.ix (.var 0) (.int 1)) (.int 48989)) (.int 977)) .nil)) (.int 2147483587))) (.cons (.ret (.bin .mod (.blt .int (.cons (.bin .fdiv (.ix (.var 0) (.int 1)) (.int 61)) .nil)) (.var 1))) .nil)))
def m_law_draw : MF := ⟨2, 2, b_law_draw⟩
def b_law_same : MB := (.cons (.asg (.name 2) (.lst (.cons (.tup (.cons (.var 0) (.cons (.var 1) .nil))) .nil))) (.cons (.whl (.cmp .gt (.blt .len (.cons (.var 2) .nil)) (.int 0)) (.cons (.asg (.tup [3, 4]) (.meth .pop (.var 2) .nil)) (.cons (.ife (.isi (.var 4) [.tuple]) (.cons (.ife (.or (.not (.isi (.var 3) [.tuple])) (.cmp .ne (.blt .len (.cons (.var 3) .nil)) (.blt .len (.cons (.var 4) .nil)))) (.cons (.ret (.bl false)) .nil) .nil) (.cons (.expr (.meth .extend (.var 2) (.cons (.lc (.tup (.cons (.ix (.var 3) (.var 5)) (.cons (.ix (.var 4) (.var 5)) .nil))) (.name 5) (.rng1 (.blt .len (.cons (.var 4) .nil))) .none) .nil))) .nil)) (.cons (.ife (.cmp .is (.var 4) .non) (.cons (.ife (.cmp .isnot (.var 3) .non) (.cons (.ret (.bl false)) .nil) .nil) .nil) (.cons (.ife (.or (.isi (.var 4) [.bool]) (.isi (.var 3) [.bool])) (.cons (.ife (.or (.not (.isi (.var 4) [.bool])) (.or (.not (.isi (.var 3) [.bool])) (.cmp .ne (.var 3) (.var 4)))) (.cons (.ret (.bl false)) .nil) .nil) .nil) (.cons (.ife (.isi (.var 4) [.str]) (.cons (.ife (.or (.not (.isi (.var 3) [.str])) (.cmp .ne (.var 3) (.var 4))) (.cons (.ret (.bl false)) .nil) .nil) .nil) (.cons (.ife (.or (.not (.isi (.var 3) [.int])) (.cmp .ne (.var 3) (.var 4))) (.cons (.ret (.bl false)) .nil) .nil) .nil)) .nil)) .nil)) .nil)) .nil))) (.cons (.ret (.bl true)) .nil)))
def m_law_same : MF := ⟨2, 6, b_law_same⟩
def b_law_expression : MB := (.cons (.asg (.name 4) (.ife (.cmp .gt (.var 3) (.int 0)) (.call 6 (.cons (.var 0) (.cons (.int 9) .nil))) (.call 6 (.cons (.var 0) (.cons (.int 3) .nil))))) (.cons (.ife (.or (.cmp .eq (.var 4) (.int 0)) (.and (.cmp .eq (.var 4) (.int 1)) (.cmp .eq (.blt .len (.cons (.var 1) .nil)) (.int 0)))) (.cons (.ret (.tup (.cons (.str w_number) (.cons (.ix (.tup (.cons (.call 6 (.cons (.var 0) (.cons (.int 9) .nil))) (.cons (.int 65535) (.cons (.int 0) (.cons (.call 6 (.cons (.var 0) (.cons (.int 65536) .nil))) .nil))))) (.call 6 (.cons (.var 0) (.cons (.int 4) .nil)))) .nil)))) .nil) .nil) (.cons (.ife (.cmp .eq (.var 4) (.int 1)) (.cons (.ret (.tup (.cons (.str w_name) (.cons (.ix (.var 1) (.call 6 (.cons (.var 0) (.cons (.blt .len (.cons (.var 1) .nil)) .nil)))) .nil)))) .nil) .nil) (.cons (.ife (.or (.cmp .eq (.var 4) (.int 2)) (.and (.cmp .ge (.var 4) (.int 7)) (.cmp .eq (.blt .len (.cons (.var 2) .nil)) (.int 0)))) (.cons (.ret (.tup (.cons (.str w_in) .nil))) .nil) .nil) (.cons (.ife (.cmp .ge (.var 4) (.int 7)) (.cons (.asg (.tup [5, 6]) (.ix (.var 2) (.call 6 (.cons (.var 0) (.cons (.blt .len (.cons (.var 2) .nil)) .nil))))) (.cons (.ret (.tup (.cons (.str w_call) (.cons (.var 5) (.cons (.blt .tuple (.cons (.lc (.call 8 (.cons (.var 0) (.cons (.var 1) (.cons (.var 2) (.cons (.bin .sub (.var 3) (.int 1)) .nil))))) (.name 9) (.rng1 (.var 6)) .none) .nil)) .nil))))) .nil)) .nil) (.cons (.asg (.name 7) (.ix (.tup (.cons (.str w_add) (.cons (.str w_sub) (.cons (.str w_mul) (.cons (.str w_less) (.cons (.str w_same) .nil)))))) (.call 6 (.cons (.var 0) (.cons (.int 5) .nil))))) (.cons (.asg (.name 8) (.call 8 (.cons (.var 0) (.cons (.var 1) (.cons (.var 2) (.cons (.bin .sub (.var 3) (.int 1)) .nil)))))) (.cons (.ret (.tup (.cons (.var 7) (.cons (.var 8) (.cons (.call 8 (.cons (.var 0) (.cons (.var 1) (.cons (.var 2) (.cons (.bin .sub (.var 3) (.int 1)) .nil))))) .nil))))) .nil))))))))
def m_law_expression : MF := ⟨4, 10, b_law_expression⟩
def b_law_statement : MB := (.cons (.asg (.name 6) (.call 6 (.cons (.var 0) (.cons (.int 10) .nil)))) (.cons (.ife (.and (.cmp .isin (.var 6) (.tup (.cons (.int 0) (.cons (.int 1) .nil)))) (.cmp .gt (.blt .len (.cons (.var 1) .nil)) (.int 0))) (.cons (.asg (.name 7) (.call 8 (.cons (.var 0) (.cons (.var 2) (.cons (.var 3) (.cons (.int 2) .nil)))))) (.cons (.expr (.meth .append (.var 2) (.cons (.meth .pop (.var 1) .nil) .nil))) (.cons (.ret (.tup (.cons (.str w_var) (.cons (.ix (.var 2) (.neg (.int 1))) (.cons (.var 7) .nil))))) .nil))) .nil) (.cons (.ife (.and (.cmp .eq (.var 6) (.int 2)) (.cmp .gt (.blt .len (.cons (.var 2) .nil)) (.int 0))) (.cons (.asg (.name 8) (.ix (.var 2) (.call 6 (.cons (.var 0) (.cons (.blt .len (.cons (.var 2) .nil)) .nil))))) (.cons (.ret (.tup (.cons (.str w_set) (.cons (.var 8) (.cons (.call 8 (.cons (.var 0) (.cons (.var 2) (.cons (.var 3) (.cons (.int 3) .nil))))) .nil))))) .nil)) .nil) (.cons (.ife (.and (.cmp .isin (.var 6) (.tup (.cons (.int 3) (.cons (.int 4) .nil)))) (.cmp .gt (.blt .len (.cons (.var 3) .nil)) (.int 0))) (.cons (.asg (.tup [8, 9]) (.ix (.var 3) (.call 6 (.cons (.var 0) (.cons (.blt .len (.cons (.var 3) .nil)) .nil))))) (.cons (.ret (.tup (.cons (.str w_call) (.cons (.var 8) (.cons (.blt .tuple (.cons (.lc (.call 8 (.cons (.var 0) (.cons (.var 2) (.cons (.var 3) (.cons (.int 2) .nil))))) (.name 11) (.rng1 (.var 9)) .none) .nil)) .nil))))) .nil)) .nil) (.cons (.ife (.and (.cmp .eq (.var 6) (.int 5)) (.cmp .gt (.var 4) (.int 0))) (.cons (.ret (.tup (.cons (.str w_hold) (.cons (.call 10 (.cons (.var 0) (.cons (.var 1) (.cons (.var 2) (.cons (.var 3) (.cons (.bin .sub (.var 4) (.int 1)) (.cons (.int 1) .nil))))))) .nil)))) .nil) .nil) (.cons (.ife (.and (.cmp .eq (.var 6) (.int 6)) (.cmp .gt (.var 4) (.int 0))) (.cons (.asg (.name 7) (.call 8 (.cons (.var 0) (.cons (.var 2) (.cons (.var 3) (.cons (.int 2) .nil)))))) (.cons (.ret (.tup (.cons (.str w_while) (.cons (.var 7) (.cons (.call 10 (.cons (.var 0) (.cons (.var 1) (.cons (.var 2) (.cons (.var 3) (.cons (.bin .sub (.var 4) (.int 1)) (.cons (.var 5) .nil))))))) .nil))))) .nil)) .nil) (.cons (.ife (.and (.cmp .eq (.var 6) (.int 7)) (.cmp .gt (.var 4) (.int 0))) (.cons (.asg (.name 7) (.call 8 (.cons (.var 0) (.cons (.var 2) (.cons (.var 3) (.cons (.int 2) .nil)))))) (.cons (.asg (.name 10) (.call 10 (.cons (.var 0) (.cons (.var 1) (.cons (.var 2) (.cons (.var 3) (.cons (.bin .sub (.var 4) (.int 1)) (.cons (.var 5) .nil)))))))) (.cons (.ret (.tup (.cons (.str w_if) (.cons (.var 7) (.cons (.var 10) (.cons (.ife (.cmp .eq (.call 6 (.cons (.var 0) (.cons (.int 2) .nil))) (.int 0)) (.call 10 (.cons (.var 0) (.cons (.var 1) (.cons (.var 2) (.cons (.var 3) (.cons (.bin .sub (.var 4) (.int 1)) (.cons (.var 5) .nil))))))) (.tup .nil)) .nil)))))) .nil))) .nil) (.cons (.ife (.and (.cmp .eq (.var 6) (.int 8)) (.cmp .eq (.var 5) (.int 0))) (.cons (.ret (.tup (.cons (.str w_return) (.cons (.call 8 (.cons (.var 0) (.cons (.var 2) (.cons (.var 3) (.cons (.int 3) .nil))))) .nil)))) .nil) .nil) (.cons (.ret (.tup (.cons (.str w_out) (.cons (.call 8 (.cons (.var 0) (.cons (.var 2) (.cons (.var 3) (.cons (.int 2) .nil))))) .nil)))) .nil)))))))))
def m_law_statement : MF := ⟨6, 12, b_law_statement⟩
def b_law_block : MB := (.cons (.asg (.name 6) (.sl (.var 2) .none .none)) (.cons (.ret (.blt .tuple (.cons (.lc (.call 9 (.cons (.var 0) (.cons (.var 1) (.cons (.var 6) (.cons (.var 3) (.cons (.var 4) (.cons (.var 5) .nil))))))) (.name 7) (.rng1 (.ix (.tup (.cons (.int 0) (.cons (.int 1) (.cons (.int 2) (.cons (.bin .add (.int 1) (.call 6 (.cons (.var 0) (.cons (.int 3) .nil)))) .nil))))) (.call 6 (.cons (.var 0) (.cons (.int 4) .nil))))) .none) .nil))) .nil))
def m_law_block : MF := ⟨6, 8, b_law_block⟩
def b_law_named : MB := (.cons (.ife (.cmp .eq (.ix (.var 0) (.int 0)) (.str w_call)) (.cons (.forr (.name 3) (.rng1 (.blt .len (.cons (.ix (.var 0) (.int 2)) .nil))) (.cons (.expr (.meth .append (.var 2) (.cons (.bin .add (.var 1) (.var 3)) .nil))) (.cons (.expr (.call 11 (.cons (.ix (.ix (.var 0) (.int 2)) (.var 3)) (.cons (.bin .add (.var 1) (.var 3)) (.cons (.var 2) .nil))))) .nil))) .nil) (.cons (.ife (.cmp .notin (.ix (.var 0) (.int 0)) (.tup (.cons (.str w_number) (.cons (.str w_name) (.cons (.str w_in) .nil))))) (.cons (.expr (.meth .append (.var 2) (.cons (.var 1) .nil))) (.cons (.expr (.call 11 (.cons (.ix (.var 0) (.int 1)) (.cons (.var 1) (.cons (.var 2) .nil))))) (.cons (.expr (.meth .append (.var 2) (.cons (.bin .add (.var 1) (.int 1)) .nil))) (.cons (.expr (.call 11 (.cons (.ix (.var 0) (.int 2)) (.cons (.bin .add (.var 1) (.int 1)) (.cons (.var 2) .nil))))) .nil)))) .nil) .nil)) .nil)
def m_law_named : MF := ⟨3, 4, b_law_named⟩
def b_law_due : MB := (.cons (.asg (.name 2) (.lst .nil)) (.cons (.expr (.call 11 (.cons (.var 0) (.cons (.var 1) (.cons (.var 2) .nil))))) (.cons (.ret (.bin .add (.blt .max (.cons (.bin .add (.lst (.cons (.neg (.int 1)) .nil)) (.var 2)) .nil)) (.int 1))) .nil)))
def m_law_due : MF := ⟨2, 3, b_law_due⟩
def b_law_whole : MB := (.cons (.asg (.name 1) (.int 0)) (.cons (.asg (.name 2) (.blt .list (.cons (.var 0) .nil))) (.cons (.whl (.cmp .gt (.blt .len (.cons (.var 2) .nil)) (.int 0)) (.cons (.asg (.name 3) (.meth .pop (.var 2) .nil)) (.cons (.ife (.cmp .isin (.ix (.var 3) (.int 0)) (.tup (.cons (.str w_var) (.cons (.str w_set) .nil)))) (.cons (.asg (.name 1) (.blt .max (.cons (.var 1) (.cons (.call 12 (.cons (.ix (.var 3) (.int 2)) (.cons (.int 0) .nil))) .nil)))) .nil) (.cons (.ife (.cmp .eq (.ix (.var 3) (.int 0)) (.str w_call)) (.cons (.asg (.name 1) (.blt .max (.cons (.var 1) (.cons (.call 12 (.cons (.var 3) (.cons (.int 0) .nil))) .nil)))) .nil) (.cons (.ife (.cmp .eq (.ix (.var 3) (.int 0)) (.str w_hold)) (.cons (.expr (.meth .extend (.var 2) (.cons (.ix (.var 3) (.int 1)) .nil))) .nil) (.cons (.asg (.name 1) (.blt .max (.cons (.var 1) (.cons (.call 12 (.cons (.ix (.var 3) (.int 1)) (.cons (.int 0) .nil))) (.cons (.ife (.cmp .eq (.ix (.var 3) (.int 0)) (.str w_return)) (.int 0) (.int 1)) .nil))))) (.cons (.forr (.name 4) (.seq (.sl (.var 3) (.some (.int 2)) .none)) (.cons (.expr (.meth .extend (.var 2) (.cons (.var 4) .nil))) .nil)) .nil))) .nil)) .nil)) .nil))) (.cons (.ret (.var 1)) .nil))))
def m_law_whole : MF := ⟨1, 5, b_law_whole⟩
def b_law_deep : MB := (.cons (.asg (.name 3) (.tup (.cons (.str w_in) .nil))) (.cons (.forr (.name 4) (.rng1 (.var 1)) (.cons (.asg (.name 5) (.call 6 (.cons (.var 0) (.cons (.int 5) .nil)))) (.cons (.ife (.cmp .eq (.var 5) (.int 0)) (.cons (.asg (.name 3) (.tup (.cons (.str w_call) (.cons (.str w_f) (.cons (.blt .tuple (.cons (.bin .add (.bin .mul (.lst (.cons (.tup (.cons (.str w_number) (.cons (.int 1) .nil))) .nil)) (.call 6 (.cons (.var 0) (.cons (.int 3) .nil)))) (.lst (.cons (.var 3) .nil))) .nil)) .nil))))) .nil) (.cons (.ife (.and (.cmp .eq (.var 5) (.int 1)) (.cmp .eq (.var 2) (.int 0))) (.cons (.asg (.name 3) (.tup (.cons (.str w_sub) (.cons (.var 3) (.cons (.tup (.cons (.str w_name) (.cons (.str w_a) .nil))) .nil))))) .nil) (.cons (.asg (.name 3) (.tup (.cons (.str w_add) (.cons (.tup (.cons (.str w_name) (.cons (.str w_a) .nil))) (.cons (.var 3) .nil))))) .nil)) .nil)) .nil))) (.cons (.ret (.var 3)) .nil)))
def m_law_deep : MF := ⟨3, 6, b_law_deep⟩
def b_law : MB := (.cons (.asg (.name 1) (.call 5 (.cons (.var 0) .nil))) (.cons (.asg (.name 2) (.lst (.cons (.tup (.cons (.str w_f) (.cons (.int 1) .nil))) (.cons (.tup (.cons (.str w_g) (.cons (.int 0) .nil))) (.cons (.tup (.cons (.str w_h) (.cons (.int 3) .nil))) (.cons (.tup (.cons (.str w_abcdefgh) (.cons (.int 2) .nil))) .nil)))))) (.cons (.forr (.name 3) (.rng1 (.int 6)) (.cons (.asg (.name 4) (.call 8 (.cons (.var 1) (.cons (.lst (.cons (.str w_a) (.cons (.str w_x1) .nil))) (.cons (.var 2) (.cons (.bin .add (.int 1) (.call 6 (.cons (.var 1) (.cons (.int 4) .nil)))) .nil)))))) (.cons (.ife (.cmp .eq (.var 3) (.int 5)) (.cons (.asg (.name 4) (.call 14 (.cons (.var 1) (.cons (.bin .add (.int 1) (.call 6 (.cons (.var 1) (.cons (.int 20) .nil)))) (.cons (.call 6 (.cons (.var 1) (.cons (.int 2) .nil))) .nil))))) .nil) .nil) (.cons (.asg (.name 5) (.ix (.tup (.cons (.int 0) (.cons (.call 6 (.cons (.var 1) (.cons (.int 13) .nil))) (.cons (.int 1) .nil)))) (.call 6 (.cons (.var 1) (.cons (.int 3) .nil))))) (.cons (.ife (.not (.call 7 (.cons (.call 2 (.cons (.var 4) (.cons (.var 5) .nil))) (.cons (.call 12 (.cons (.var 4) (.cons (.var 5) .nil))) .nil)))) (.cons (.ret (.bl false)) .nil) .nil) (.cons (.ife (.not (.call 7 (.cons (.call 2 (.cons (.tup (.cons (.str w_add) (.cons (.tup (.cons (.str w_in) .nil)) (.cons (.var 4) .nil)))) (.cons (.var 5) .nil))) (.cons (.blt .max (.cons (.bin .add (.var 5) (.int 2)) (.cons (.call 12 (.cons (.var 4) (.cons (.bin .add (.var 5) (.int 1)) .nil))) .nil))) .nil)))) (.cons (.ret (.bl false)) .nil) .nil) .nil)))))) (.cons (.forr (.name 3) (.rng1 (.int 6)) (.cons (.asg (.name 6) (.call 10 (.cons (.var 1) (.cons (.lst (.cons (.str w_v1) (.cons (.str w_v2) (.cons (.str w_v3) .nil)))) (.cons (.lst (.cons (.str w_a) (.cons (.str w_x1) .nil))) (.cons (.var 2) (.cons (.int 3) (.cons (.call 6 (.cons (.var 1) (.cons (.int 2) .nil))) .nil)))))))) (.cons (.ife (.not (.call 7 (.cons (.call 4 (.cons (.var 6) .nil)) (.cons (.call 13 (.cons (.var 6) .nil)) .nil)))) (.cons (.ret (.bl false)) .nil) .nil) .nil))) (.cons (.asg (.name 7) (.tup (.cons (.str w_call) (.cons (.str w_g) (.cons (.tup .nil) .nil))))) (.cons (.asg (.name 8) (.tup (.cons (.call 4 (.cons (.tup .nil) .nil)) (.cons (.call 4 (.cons (.tup (.cons (.tup (.cons (.str w_hold) (.cons (.tup (.cons (.var 7) .nil)) .nil))) .nil)) .nil)) (.cons (.call 4 (.cons (.tup (.cons (.tup (.cons (.str w_out) (.cons (.tup (.cons (.str w_in) .nil)) .nil))) .nil)) .nil)) (.cons (.call 2 (.cons (.var 7) (.cons (.int 5) .nil))) (.cons (.call 4 (.cons (.tup (.cons (.tup (.cons (.str w_return) (.cons (.tup (.cons (.str w_in) .nil)) .nil))) .nil)) .nil)) .nil))))))) (.cons (.ret (.call 7 (.cons (.var 8) (.cons (.tup (.cons (.int 0) (.cons (.int 0) (.cons (.int 1) (.cons (.int 0) (.cons (.int 0) .nil)))))) .nil)))) .nil)))))))
def m_law : MF := ⟨1, 9, b_law⟩
def cns : List (Str × D) := [("PAIRED", (.tup [(.str w_add), (.str w_sub), (.str w_mul), (.str w_less), (.str w_same)]))]
def gls : List D := [(.tup [(.str w_add), (.str w_sub), (.str w_mul), (.str w_less), (.str w_same)])]
def tb : List MF := [m_own_blocks, m_args_need, m_expression_need, m_statement_need, m_block_need, m_law_spring, m_law_draw, m_law_same, m_law_expression, m_law_statement, m_law_block, m_law_named, m_law_due, m_law_whole, m_law_deep, m_law]
def pds : List PD := [⟨"own_blocks", topS 2, ["statement", "word"], m_own_blocks⟩,
  ⟨"args_need", topS 4, ["args", "k", "needs", "at"], m_args_need⟩,
  ⟨"expression_need", topS 5, ["e", "k"], m_expression_need⟩,
  ⟨"statement_need", topS 6, ["statement", "word", "needs", "block"], m_statement_need⟩,
  ⟨"block_need", topS 7, ["block", "statement"], m_block_need⟩,
  ⟨"_law_spring", topS 9, ["script", "drops", "stir", "cell", "size"], m_law_spring⟩,
  ⟨"_law_draw", topS 10, ["spring", "many"], m_law_draw⟩,
  ⟨"_law_same", topS 12, ["told", "due", "todo", "one", "other", "k"], m_law_same⟩,
  ⟨"_law_expression", topS 13, ["spring", "scope", "funs", "depth", "form", "name", "many", "word", "left", "at"], m_law_expression⟩,
  ⟨"_law_statement", topS 14, ["spring", "spare", "scope", "funs", "depth", "place", "form", "e", "name", "many", "one", "at"], m_law_statement⟩,
  ⟨"_law_block", topS 15, ["spring", "spare", "scope", "funs", "depth", "place", "seen", "at"], m_law_block⟩,
  ⟨"_law_named", topS 16, ["e", "k", "found", "at"], m_law_named⟩,
  ⟨"_law_due", topS 17, ["e", "k", "found"], m_law_due⟩,
  ⟨"_law_whole", topS 18, ["block", "most", "todo", "one", "part"], m_law_whole⟩,
  ⟨"_law_deep", topS 19, ["spring", "deep", "side", "e", "step", "manner"], m_law_deep⟩,
  ⟨"law", topS 20, ["script", "spring", "funs", "lap", "e", "k", "block", "call", "told"], m_law⟩]
abbrev i_own_blocks : Nat := 0
abbrev i_args_need : Nat := 1
abbrev i_expression_need : Nat := 2
abbrev i_statement_need : Nat := 3
abbrev i_block_need : Nat := 4
abbrev i_law_spring : Nat := 5
abbrev i_law_draw : Nat := 6
abbrev i_law_same : Nat := 7
abbrev i_law_expression : Nat := 8
abbrev i_law_statement : Nat := 9
abbrev i_law_block : Nat := 10
abbrev i_law_named : Nat := 11
abbrev i_law_due : Nat := 12
abbrev i_law_whole : Nat := 13
abbrev i_law_deep : Nat := 14
abbrev i_law : Nat := 15
/-- the run of this program's defs -/
abbrev rn (n : Nat) : Cl := run gls tb n
abbrev R0 (Q : Kd) : Es := { nx := fun _ h' => Q .non h', rt := Q, bk := fun _ _ => False, ct := fun _ _ => False }
theorem u_own_blocks {n : Nat} {d0 : D} {h : Hh} {Q : Kd} {X : Ex} (w : wB gls (rn n) X b_own_blocks (R0 Q) [some d0, none] h) : rn (n + 1) i_own_blocks [d0] h Q X := run_of (m := m_own_blocks) rfl rfl rfl w
theorem u_args_need {n : Nat} {d0 d1 : D} {h : Hh} {Q : Kd} {X : Ex} (w : wB gls (rn n) X b_args_need (R0 Q) [some d0, some d1, none, none] h) : rn (n + 1) i_args_need [d0, d1] h Q X := run_of (m := m_args_need) rfl rfl rfl w
theorem u_expression_need {n : Nat} {d0 d1 : D} {h : Hh} {Q : Kd} {X : Ex} (w : wB gls (rn n) X b_expression_need (R0 Q) [some d0, some d1] h) : rn (n + 1) i_expression_need [d0, d1] h Q X := run_of (m := m_expression_need) rfl rfl rfl w
theorem u_statement_need {n : Nat} {d0 : D} {h : Hh} {Q : Kd} {X : Ex} (w : wB gls (rn n) X b_statement_need (R0 Q) [some d0, none, none, none] h) : rn (n + 1) i_statement_need [d0] h Q X := run_of (m := m_statement_need) rfl rfl rfl w
theorem u_block_need {n : Nat} {d0 : D} {h : Hh} {Q : Kd} {X : Ex} (w : wB gls (rn n) X b_block_need (R0 Q) [some d0, none] h) : rn (n + 1) i_block_need [d0] h Q X := run_of (m := m_block_need) rfl rfl rfl w
theorem u_law_spring {n : Nat} {d0 : D} {h : Hh} {Q : Kd} {X : Ex} (w : wB gls (rn n) X b_law_spring (R0 Q) [some d0, none, none, none, none] h) : rn (n + 1) i_law_spring [d0] h Q X := run_of (m := m_law_spring) rfl rfl rfl w
theorem u_law_draw {n : Nat} {d0 d1 : D} {h : Hh} {Q : Kd} {X : Ex} (w : wB gls (rn n) X b_law_draw (R0 Q) [some d0, some d1] h) : rn (n + 1) i_law_draw [d0, d1] h Q X := run_of (m := m_law_draw) rfl rfl rfl w
theorem u_law_same {n : Nat} {d0 d1 : D} {h : Hh} {Q : Kd} {X : Ex} (w : wB gls (rn n) X b_law_same (R0 Q) [some d0, some d1, none, none, none, none] h) : rn (n + 1) i_law_same [d0, d1] h Q X := run_of (m := m_law_same) rfl rfl rfl w
theorem u_law_expression {n : Nat} {d0 d1 d2 d3 : D} {h : Hh} {Q : Kd} {X : Ex} (w : wB gls (rn n) X b_law_expression (R0 Q) [some d0, some d1, some d2, some d3, none, none, none, none, none, none] h) : rn (n + 1) i_law_expression [d0, d1, d2, d3] h Q X := run_of (m := m_law_expression) rfl rfl rfl w
theorem u_law_statement {n : Nat} {d0 d1 d2 d3 d4 d5 : D} {h : Hh} {Q : Kd} {X : Ex} (w : wB gls (rn n) X b_law_statement (R0 Q) [some d0, some d1, some d2, some d3, some d4, some d5, none, none, none, none, none, none] h) : rn (n + 1) i_law_statement [d0, d1, d2, d3, d4, d5] h Q X := run_of (m := m_law_statement) rfl rfl rfl w
theorem u_law_block {n : Nat} {d0 d1 d2 d3 d4 d5 : D} {h : Hh} {Q : Kd} {X : Ex} (w : wB gls (rn n) X b_law_block (R0 Q) [some d0, some d1, some d2, some d3, some d4, some d5, none, none] h) : rn (n + 1) i_law_block [d0, d1, d2, d3, d4, d5] h Q X := run_of (m := m_law_block) rfl rfl rfl w
theorem u_law_named {n : Nat} {d0 d1 d2 : D} {h : Hh} {Q : Kd} {X : Ex} (w : wB gls (rn n) X b_law_named (R0 Q) [some d0, some d1, some d2, none] h) : rn (n + 1) i_law_named [d0, d1, d2] h Q X := run_of (m := m_law_named) rfl rfl rfl w
theorem u_law_due {n : Nat} {d0 d1 : D} {h : Hh} {Q : Kd} {X : Ex} (w : wB gls (rn n) X b_law_due (R0 Q) [some d0, some d1, none] h) : rn (n + 1) i_law_due [d0, d1] h Q X := run_of (m := m_law_due) rfl rfl rfl w
theorem u_law_whole {n : Nat} {d0 : D} {h : Hh} {Q : Kd} {X : Ex} (w : wB gls (rn n) X b_law_whole (R0 Q) [some d0, none, none, none, none] h) : rn (n + 1) i_law_whole [d0] h Q X := run_of (m := m_law_whole) rfl rfl rfl w
theorem u_law_deep {n : Nat} {d0 d1 d2 : D} {h : Hh} {Q : Kd} {X : Ex} (w : wB gls (rn n) X b_law_deep (R0 Q) [some d0, some d1, some d2, none, none, none] h) : rn (n + 1) i_law_deep [d0, d1, d2] h Q X := run_of (m := m_law_deep) rfl rfl rfl w
theorem u_law {n : Nat} {d0 : D} {h : Hh} {Q : Kd} {X : Ex} (w : wB gls (rn n) X b_law (R0 Q) [some d0, none, none, none, none, none, none, none, none] h) : rn (n + 1) i_law [d0] h Q X := run_of (m := m_law) rfl rfl rfl w
theorem all_chk : (pds.all fun p => p.ok (pds.map (·.x)) (cns.map (·.1))) = true := by decide +kernel
end Lw

set_option Elab.async false
set_option linter.all false
set_option maxRecDepth 100000
set_option maxHeartbeats 1000000
namespace Lw
open PySem PySem.Spec PyProof.Rows L2 Mi
local macro_rules | `(tactic| walk_at "mem") => `(tactic| first | exact fun _ z => absurd z List.not_mem_nil | exact List.not_mem_nil | (intro i hi; simp only [List.mem_cons, List.not_mem_nil, or_false, false_or] at hi ⊢; omega) | (simp only [List.mem_cons, List.not_mem_nil, or_false, false_or, not_or]; omega))
local macro_rules | `(tactic| walk_at "get") => `(tactic| first | assumption | (apply Keep.get; assumption; walk_at "get"; walk_at "mem"))
local macro_rules | `(tactic| walk_at "keep") => `(tactic| first | assumption | exact Keep.refl | (apply Keep.step; assumption; walk_at "keep"; walk_at "mem"))
local macro_rules | `(tactic| walk_at "one") => `(tactic| (conv => whnf) <;> first
  | (refine rdO_i (by walk_at "get") ?_)
  | (refine itm_i (by first | rfl | assumption | exact getAt_end _ _) ?_)
  | (refine new_i ?_; intro p h' e1 l1 l2 l3 k)
  | (refine put_i (by walk_at "get") ?_; intro h' e1 l1 k)
  | (refine iLst_i (by first | rfl | exact intsOf_map _) ?_)
  | (refine br_t (by rfl) ?_)
  | (refine br_f (by rfl) ?_)
  | (refine chk_i (by first | rfl | assumption | exact mulOk_r (by decide) | exact mulOk_l (by decide) | exact small_lt (by simp only [List.length_map, List.length_cons, List.length_append, List.length_take, List.length_nil, List.length_replicate, List.length_dropLast]; omega) | exact lenOk_le (by simp only [List.length_map, List.length_cons, List.length_append, List.length_take, List.length_nil, List.length_replicate]; omega) | (simp; omega)) ?_))
local macro_rules | `(tactic| walk_at "go") => `(tactic| (repeat walk_at "one"); try (conv => whnf))
/-! ### the spring -/
structure Spr (h : Hh) (s dr : Nat) : Prop where
  ne : s ≠ dr
  ex : ∃ (st : Int) (ds : List Int), h[s]? = some (.lst [.ref dr, .int st]) ∧ h[dr]? = some (.lst (ds.map .int))
theorem Spr.mono {h h' : Hh} {s dr : Nat} {S : List Nat} (p : Spr h s dr) (k : Keep S h h') (n1 : s ∉ S) (n2 : dr ∉ S) : Spr h' s dr := by
  obtain ⟨ne, st, ds, e1, e2⟩ := p
  exact ⟨ne, st, ds, k.get e1 n1, k.get e2 n2⟩
theorem Spr.lt {h : Hh} {s dr : Nat} (p : Spr h s dr) : s < h.length ∧ dr < h.length := by
  obtain ⟨ne, st, ds, e1, e2⟩ := p
  exact ⟨lt_of e1, lt_of e2⟩
theorem draw_ok {n : Nat} {s dr : Nat} {m : Int} {h : Hh} {Q : Kd} {X : Ex} (p : Spr h s dr) (hm : 0 < m)
    (w : ∀ (v : Int) (h' : Hh), 0 ≤ v → v < m → Spr h' s dr → h.length ≤ h'.length → Keep [s, dr] h h' → Q (.int v) h') :
    rn (n + 1) i_law_draw [.ref s, .int m] h Q X := by
  obtain ⟨ne, st, ds, e1, e2⟩ := p
  have q1 := lt_of e1
  have q2 := lt_of e2
  refine u_law_draw ?_
  walk_at "go"
  refine br_i (fun hc => ?_) (fun hc => ?_)
  · rcases List.eq_nil_or_concat ds with rfl | ⟨ds, d, rfl⟩
    · simp at hc
    · simp only [List.map_append, List.map_cons, List.map_nil, List.concat_eq_append] at e2
      walk_at "go"
      refine w _ _ (Int.emod_nonneg _ (by omega)) (Int.emod_lt_of_pos _ hm) ⟨ne, st, ds, by walk_at "get", ?_⟩ (by assumption) (by walk_at "keep")
      rename_i e3 _ _
      rw [List.dropLast_concat] at e3
      exact e3
  · walk_at "go"
    exact w _ _ (Int.emod_nonneg _ (by omega)) (Int.emod_lt_of_pos _ hm) ⟨ne, _, ds, by walk_at "get", by walk_at "get"⟩ (by assumption) (by walk_at "keep")
/-! ### expressions -/
inductive Ow where | add | sub | mul | less | same
def Ow.s : Ow → Str | .add => w_add | .sub => w_sub | .mul => w_mul | .less => w_less | .same => w_same
inductive Ep where | num (n : Int) | nam (x : Str) | inn | op (o : Ow) (a b : Ep) | call (x : Str) (as : List Ep)
mutual
def Ep.d : Ep → D
  | .num n => .tup [.str w_number, .int n]
  | .nam x => .tup [.str w_name, .str x]
  | .inn => .tup [.str w_in]
  | .op o a b => .tup [.str o.s, a.d, b.d]
  | .call x as => .tup [.str w_call, .str x, .tup (Ep.ds as)]
def Ep.ds : List Ep → List D
  | [] => []
  | a :: as => a.d :: Ep.ds as
end
mutual
def Ep.need : Ep → Int → Int
  | .op _ a b, k => max (k + 2) (max (a.need k) (b.need (k + 1)))
  | .call _ as, k => (Ep.argsL as k).foldl max 0
  | _, _ => 0
def Ep.argsL : List Ep → Int → List Int
  | [], _ => []
  | a :: as, k => max (k + 1) (a.need k) :: Ep.argsL as (k + 1)
end
mutual
def Ep.ht : Ep → Nat
  | .op _ a b => max a.ht b.ht + 1
  | .call _ as => Ep.hts as + 2
  | _ => 1
def Ep.hts : List Ep → Nat
  | [] => 0
  | a :: as => max a.ht (Ep.hts as)
end
mutual
def Ep.fit : Ep → Prop
  | .op _ a b => a.fit ∧ b.fit
  | .call _ as => as.length ≤ 3 ∧ Ep.fits as
  | _ => True
def Ep.fits : List Ep → Prop
  | [] => True
  | a :: as => a.fit ∧ Ep.fits as
end
theorem ds_len : ∀ as : List Ep, (Ep.ds as).length = as.length
  | [] => rfl
  | a :: as => by show (Ep.ds as).length + 1 = _; rw [ds_len as]; rfl
theorem ds_at : ∀ (as : List Ep) (i : Nat) (a : Ep), as[i]? = some a → (Ep.ds as)[i]? = some a.d
  | [], _, _, e => by simp at e
  | a :: as, 0, _, e => by simp at e; subst e; rfl
  | a :: as, i + 1, b, e => ds_at as i b (by simpa using e)
theorem argsL_len : ∀ (as : List Ep) (k : Int), (Ep.argsL as k).length = as.length
  | [], _ => rfl
  | a :: as, k => by show (Ep.argsL as (k + 1)).length + 1 = _; rw [argsL_len as]; rfl
theorem argsL_at : ∀ (as : List Ep) (k : Int) (i : Nat) (a : Ep), as[i]? = some a → (Ep.argsL as k)[i]? = some (max (k + i + 1) (a.need (k + i)))
  | [], _, _, _, e => by simp at e
  | a :: as, k, 0, _, e => by
    simp at e
    subst e
    show some (max (k + 1) (a.need k)) = _
    simp
  | a :: as, k, i + 1, b, e => by
    show (Ep.argsL as (k + 1))[i]? = _
    rw [argsL_at as (k + 1) i b (by simpa using e)]
    have : k + 1 + (i : Int) = k + ((i + 1 : Nat) : Int) := by omega
    rw [this]
theorem hts_at : ∀ (as : List Ep) (i : Nat) (a : Ep), as[i]? = some a → a.ht ≤ Ep.hts as
  | [], _, _, e => by simp at e
  | a :: as, 0, _, e => by simp at e; subst e; exact Nat.le_max_left _ _
  | a :: as, i + 1, b, e => Nat.le_trans (hts_at as i b (by simpa using e)) (Nat.le_max_right _ _)
theorem fits_at : ∀ (as : List Ep) (i : Nat) (a : Ep), as[i]? = some a → Ep.fits as → a.fit
  | [], _, _, e, _ => by simp at e
  | a :: as, 0, _, e, f => by simp at e; subst e; exact f.1
  | a :: as, i + 1, b, e, f => fits_at as i b (by simpa using e) f.2
theorem args_ok {n : Nat} {as : List Ep} {k : Int} {h : Hh} {Q : Kd} {X : Ex} (hl : as.length ≤ 3)
    (ih : ∀ (i : Nat) (a : Ep) (k : Int) (h : Hh) (Q : Kd), as[i]? = some a → (∀ h', h.length ≤ h'.length → Keep [] h h' → Q (.int (a.need k)) h') → rn n i_expression_need [a.d, .int k] h Q X)
    (w : ∀ h', h.length ≤ h'.length → Keep [] h h' → Q (.int ((Ep.argsL as k).foldl max 0)) h') : rn (n + 1) i_args_need [.tup (Ep.ds as), .int k] h Q X := by
  refine u_args_need ?_
  have hl2 := ds_len as
  walk_at "go"
  rename_i p h1 e1 l1 l2 l3 k1
  refine loop_i (I := fun r σ h' => ∃ i x, i ≤ as.length ∧ r = range (as.length - i) 0 i ∧ σ = [some (.tup (Ep.ds as)), some (.int k), some (.ref p), x] ∧ h'[p]? = some (.lst ((0 :: (Ep.argsL as k).take i).map .int)) ∧ h1.length ≤ h'.length ∧ Keep [p] h1 h') ?_ ?_ _ _ _ ?_
  · rintro x r σ h2 K ⟨i, z, hi, er, rfl, ep, l4, k2⟩ hK
    obtain ⟨m', em, rfl, rfl⟩ := range_cons er
    have hi2 : i < as.length := by omega
    have ea := List.getElem?_eq_getElem hi2
    have g := ds_at as i _ ea
    have g2 : getAt (Ep.ds as) (0 + (i : Int)) = some (as[i]).d := getAt_map g (by omega)
    walk_at "go"
    refine ih i _ _ _ _ ea fun h3 l5 k3 => ?_
    walk_at "go"
    refine hK _ _ ⟨i + 1, _, by omega, by rw [show as.length - (i + 1) = m' by omega], rfl, ?_, by omega, by walk_at "keep"⟩
    rename_i e5 _ _
    rw [e5, List.take_add_one, argsL_at as k i _ ea]
    have e6 : (0 : Int) + (i : Int) = i := by omega
    simp only [e6, Option.toList_some, List.map_cons, List.map_append, List.map_nil, List.cons_append]
    have e7 : ∀ a b : Int, (if b > a then b else a) = max a b := fun a b => by omega
    rw [e7]
  · rintro σ h2 ⟨i, z, hi, er, rfl, ep, l4, k2⟩
    have := range_nil er
    have ei : i = as.length := by omega
    subst ei
    rw [List.take_of_length_le (by rw [argsL_len]; omega)] at ep
    walk_at "go"
    rw [maxI_max]
    exact w _ (by omega) (by walk_at "keep")
  · exact ⟨0, _, by omega, by simp [hl2], rfl, e1, by omega, Keep.refl⟩
theorem ow_w (o : Ow) : o.s = w_add ∨ o.s = w_sub ∨ o.s = w_mul ∨ o.s = w_less ∨ o.s = w_same := by cases o <;> simp [Ow.s]
theorem need_ok : ∀ (m : Nat) (e : Ep) (n : Nat) (k : Int) (h : Hh) (Q : Kd) (X : Ex), e.ht ≤ n → n ≤ m → e.fit → (∀ h', h.length ≤ h'.length → Keep [] h h' → Q (.int (e.need k)) h') → rn n i_expression_need [e.d, .int k] h Q X
  | _, e, 0, _, _, _, _, h0, _, _, _ => by cases e <;> simp [Ep.ht] at h0
  | 0, e, n + 1, _, _, _, _, _, hn, _, _ => absurd hn (by omega)
  | m + 1, e, n + 1, k, h, Q, X, hm, hn, hf, w => by
    refine u_expression_need ?_
    cases e with
    | num z =>
      walk_at "go"
      exact w _ (Nat.le_refl _) Keep.refl
    | nam z =>
      walk_at "go"
      exact w _ (Nat.le_refl _) Keep.refl
    | inn =>
      walk_at "go"
      exact w _ (Nat.le_refl _) Keep.refl
    | op o a b =>
      have h1 : a.ht ≤ n := by simp only [Ep.ht] at hm; omega
      have h2 : b.ht ≤ n := by simp only [Ep.ht] at hm; omega
      have e1 : (if b.need (k + 1) > (if a.need k > k + 2 then a.need k else k + 2) then b.need (k + 1) else (if a.need k > k + 2 then a.need k else k + 2)) = (Ep.op o a b).need k := by simp only [Ep.need]; omega
      cases o <;> (
        walk_at "go"
        refine need_ok m a n k _ _ _ h1 (by omega) hf.1 fun h3 l3 k3 => ?_
        walk_at "go"
        refine need_ok m b n _ _ _ _ h2 (by omega) hf.2 fun h4 l4 k4 => ?_
        walk_at "go"
        rw [e1]
        exact w _ (by omega) (by walk_at "keep"))
    | call x as =>
      walk_at "go"
      cases n with
      | zero => simp only [Ep.ht] at hm; omega
      | succ n =>
        refine args_ok hf.1 (fun i a k h Q e q => need_ok m a n k h Q _ ?_ (by omega) (fits_at as i a e hf.2) q) w
        have := hts_at as i a e
        simp only [Ep.ht] at hm
        omega

end Lw

set_option Elab.async false
set_option linter.all false
set_option maxRecDepth 100000
set_option maxHeartbeats 1000000
namespace Lw
open PySem PySem.Spec PyProof.Rows L2 Mi
local macro_rules | `(tactic| walk_at "mem") => `(tactic| first | exact fun _ z => absurd z List.not_mem_nil | exact List.not_mem_nil | (intro i hi; simp only [List.mem_cons, List.not_mem_nil, or_false, false_or] at hi ⊢; omega) | (simp only [List.mem_cons, List.not_mem_nil, or_false, false_or, not_or]; omega))
local macro_rules | `(tactic| walk_at "get") => `(tactic| first | assumption | (apply Keep.get; assumption; walk_at "get"; walk_at "mem"))
local macro_rules | `(tactic| walk_at "keep") => `(tactic| first | assumption | exact Keep.refl | (apply Keep.step; assumption; walk_at "keep"; walk_at "mem"))
local macro_rules | `(tactic| walk_at "one") => `(tactic| (conv => whnf) <;> first
  | (refine rdO_i (by walk_at "get") ?_)
  | (refine itm_i (by first | rfl | assumption | exact getAt_end _ _) ?_)
  | (refine new_i ?_; intro p h' e1 l1 l2 l3 k)
  | (refine put_i (by walk_at "get") ?_; intro h' e1 l1 k)
  | (refine iLst_i (by first | rfl | exact intsOf_map _) ?_)
  | (refine br_t (by rfl) ?_)
  | (refine br_f (by rfl) ?_)
  | (refine chk_i (by first | rfl | assumption | exact mulOk_r (by decide) | exact mulOk_l (by decide) | exact small_lt (by simp only [List.length_map, List.length_cons, List.length_append, List.length_take, List.length_nil, List.length_replicate, List.length_dropLast]; omega) | exact lenOk_le (by simp only [List.length_map, List.length_cons, List.length_append, List.length_take, List.length_nil, List.length_replicate]; omega) | (simp; omega)) ?_))
local macro_rules | `(tactic| walk_at "go") => `(tactic| (repeat walk_at "one"); try (conv => whnf))

local macro_rules | `(tactic| walk_at "br") => `(tactic| (refine br_i (fun hc => ?_) (fun hc => ?_) <;> simp only [Bool.not_eq_true', Bool.not_eq_false', beq_iff_eq, beq_eq_false_iff_ne, ne_eq, decide_eq_true_eq, decide_eq_false_iff_not, bne_iff_ne, bne_eq_false_iff_eq] at hc) <;> first | (exfalso; omega) | walk_at "go")
theorem draw1 {n : Nat} {s dr : Nat} {m : Int} {h : Hh} {Q : Kd} {X : Ex} (p : Spr h s dr) (hm : 0 < m) (hn : 1 ≤ n)
    (w : ∀ (v : Int) (h' : Hh), 0 ≤ v → v < m → Spr h' s dr → h.length ≤ h'.length → Keep [s, dr] h h' → Q (.int v) h') :
    rn n i_law_draw [.ref s, .int m] h Q X := by
  cases n with
  | zero => omega
  | succ n => exact draw_ok p hm w
theorem getAt_ok {α : Type} {f : α → D} {xs : List α} {v : Int} (h0 : 0 ≤ v) (h1 : v < xs.length) : ∃ x, x ∈ xs ∧ getAt (xs.map f) v = some (f x) := by
  have h2 : v.toNat < xs.length := by omega
  refine ⟨xs[v.toNat], List.getElem_mem h2, getAt_map (i := v.toNat) (by simp [h2]) (by omega)⟩
def FN : List D := [.tup [.str w_f, .int 1], .tup [.str w_g, .int 0], .tup [.str w_h, .int 3], .tup [.str w_abcdefgh, .int 2]]
theorem fn_at {v : Int} (h0 : 0 ≤ v) (h1 : v < 4) : ∃ (x : Str) (m : Nat), m ≤ 3 ∧ getAt FN v = some (.tup [.str x, .int m]) := by
  rcases (show v = 0 ∨ v = 1 ∨ v = 2 ∨ v = 3 by omega) with rfl | rfl | rfl | rfl
  · exact ⟨w_f, 1, by omega, rfl⟩
  · exact ⟨w_g, 0, by omega, rfl⟩
  · exact ⟨w_h, 3, by omega, rfl⟩
  · exact ⟨w_abcdefgh, 2, by omega, rfl⟩
theorem ds_app : ∀ (as bs : List Ep), Ep.ds (as ++ bs) = Ep.ds as ++ Ep.ds bs
  | [], _ => rfl
  | a :: as, bs => by show a.d :: Ep.ds (as ++ bs) = _; rw [ds_app as bs]; rfl
theorem fits_app : ∀ (as bs : List Ep), Ep.fits as → Ep.fits bs → Ep.fits (as ++ bs)
  | [], _, _, b => b
  | a :: as, bs, f, b => ⟨f.1, fits_app as bs f.2 b⟩
theorem hts_app : ∀ (as bs : List Ep) (m : Nat), Ep.hts as ≤ m → Ep.hts bs ≤ m → Ep.hts (as ++ bs) ≤ m
  | [], _, _, _, b => b
  | a :: as, bs, m, f, b => by
    have e : Ep.hts (a :: as) = max a.ht (Ep.hts as) := rfl
    have e2 : Ep.hts (a :: as ++ bs) = max a.ht (Ep.hts (as ++ bs)) := rfl
    have := hts_app as bs m (by omega) b
    omega
theorem range_len : ∀ (m : Nat) (lo : Int) (i : Nat), (range m lo i).length = m
  | 0, _, _ => rfl
  | m + 1, lo, i => by unfold range; simp [range_len m lo (i + 1)]
theorem expr_ok : ∀ (d n : Nat) (s dr sc fu : Nat) (xs : List Str) (z : Int) (h : Hh) (Q : Kd) (X : Ex), d + 2 ≤ n → z = d → Spr h s dr → h[sc]? = some (.lst (xs.map .str)) → h[fu]? = some (.lst FN) → sc ≠ s → sc ≠ dr → fu ≠ s → fu ≠ dr →
    (∀ (e : Ep) (h' : Hh), e.fit → e.ht ≤ 2 * d + 1 → Spr h' s dr → h.length ≤ h'.length → Keep [s, dr] h h' → Q e.d h') → rn n i_law_expression [.ref s, .ref sc, .ref fu, .int z] h Q X
  | _, 0, _, _, _, _, _, _, _, _, _, hn, _, _, _, _, _, _, _, _, _ => absurd hn (by omega)
  | d, n + 1, s, dr, sc, fu, xs, z, h, Q, X, hn, hz, sp, es, ef, n1, n2, n3, n4, w => by
    have s1 := sp.lt
    have s2 := lt_of es
    have s3 := lt_of ef
    refine u_law_expression ?_
    walk_at "go"
    walk_at "br"
    case' refine_1 => refine draw1 sp (by decide) (by omega) fun v h1 v0 v1 sp1 l1 k1 => ?_
    case' refine_2 => refine draw1 sp (by decide) (by omega) fun v h1 v0 v1 sp1 l1 k1 => ?_

    all_goals walk_at "go"
    all_goals rcases (show v = 0 ∨ v = 1 ∨ v = 2 ∨ (3 ≤ v ∧ v < 7) ∨ 7 ≤ v by omega) with rfl | rfl | rfl | hv | hv
    all_goals walk_at "go"

    case refine_1.inl =>
      refine draw1 (by assumption) (by decide) (by omega) fun a h2 a0 a1 sp2 l2 k2 => ?_
      walk_at "go"
      refine draw1 (by assumption) (by decide) (by omega) fun b h3 b0 b1 sp3 l3 k3 => ?_
      walk_at "go"
      refine draw1 (by assumption) (by decide) (by omega) fun c h4 c0 c1 sp4 l4 k4 => ?_
      rcases (show c = 0 ∨ c = 1 ∨ c = 2 ∨ c = 3 by omega) with rfl | rfl | rfl | rfl <;> (walk_at "go"; exact w (.num _) _ trivial (by simp [Ep.ht]) (by assumption) (by omega) (by walk_at "keep"))
    case refine_2.inl =>
      refine draw1 (by assumption) (by decide) (by omega) fun a h2 a0 a1 sp2 l2 k2 => ?_
      walk_at "go"
      refine draw1 (by assumption) (by decide) (by omega) fun b h3 b0 b1 sp3 l3 k3 => ?_
      walk_at "go"
      refine draw1 (by assumption) (by decide) (by omega) fun c h4 c0 c1 sp4 l4 k4 => ?_
      rcases (show c = 0 ∨ c = 1 ∨ c = 2 ∨ c = 3 by omega) with rfl | rfl | rfl | rfl <;> (walk_at "go"; exact w (.num _) _ trivial (by simp [Ep.ht]) (by assumption) (by omega) (by walk_at "keep"))
    case refine_1.inr.inl =>
      walk_at "br"
      · refine draw1 (by assumption) (by decide) (by omega) fun a h2 a0 a1 sp2 l2 k2 => ?_
        walk_at "go"
        refine draw1 (by assumption) (by decide) (by omega) fun b h3 b0 b1 sp3 l3 k3 => ?_
        walk_at "go"
        refine draw1 (by assumption) (by decide) (by omega) fun c h4 c0 c1 sp4 l4 k4 => ?_
        rcases (show c = 0 ∨ c = 1 ∨ c = 2 ∨ c = 3 by omega) with rfl | rfl | rfl | rfl <;> (walk_at "go"; exact w (.num _) _ trivial (by simp [Ep.ht]) (by assumption) (by omega) (by walk_at "keep"))
      · have hl : (List.map D.str xs).length = xs.length := List.length_map ..
        refine draw1 (by assumption) (by omega) (by omega) fun a h2 a0 a1 sp2 l2 k2 => ?_
        obtain ⟨y, my, ey⟩ := getAt_ok (f := D.str) a0 (hl ▸ a1)
        have es2 : h2[sc]? = some (.lst (xs.map .str)) := by walk_at "get"
        walk_at "go"
        exact w (.nam y) _ trivial (by simp [Ep.ht]) (by assumption) (by omega) (by walk_at "keep")
    case refine_2.inr.inl =>
      walk_at "br"
      · refine draw1 (by assumption) (by decide) (by omega) fun a h2 a0 a1 sp2 l2 k2 => ?_
        walk_at "go"
        refine draw1 (by assumption) (by decide) (by omega) fun b h3 b0 b1 sp3 l3 k3 => ?_
        walk_at "go"
        refine draw1 (by assumption) (by decide) (by omega) fun c h4 c0 c1 sp4 l4 k4 => ?_
        rcases (show c = 0 ∨ c = 1 ∨ c = 2 ∨ c = 3 by omega) with rfl | rfl | rfl | rfl <;> (walk_at "go"; exact w (.num _) _ trivial (by simp [Ep.ht]) (by assumption) (by omega) (by walk_at "keep"))
      · have hl : (List.map D.str xs).length = xs.length := List.length_map ..
        refine draw1 (by assumption) (by omega) (by omega) fun a h2 a0 a1 sp2 l2 k2 => ?_
        obtain ⟨y, my, ey⟩ := getAt_ok (f := D.str) a0 (hl ▸ a1)
        have es2 : h2[sc]? = some (.lst (xs.map .str)) := by walk_at "get"
        walk_at "go"
        exact w (.nam y) _ trivial (by simp [Ep.ht]) (by assumption) (by omega) (by walk_at "keep")
    case refine_2.inr.inr.inl =>
      exact w .inn _ trivial (by simp [Ep.ht]) (by assumption) (by omega) (by walk_at "keep")
    case refine_1.inr.inr.inl =>
      exact w .inn _ trivial (by simp [Ep.ht]) (by assumption) (by omega) (by walk_at "keep")
    case refine_2.inr.inr.inr.inl => omega
    case refine_2.inr.inr.inr.inr => omega
    case refine_1.inr.inr.inr.inl =>
      obtain ⟨d, rfl⟩ : ∃ d', d = d' + 1 := ⟨d - 1, by omega⟩
      iterate 8 try walk_at "br"
      refine draw1 (by assumption) (by decide) (by omega) fun a h2 a0 a1 sp2 l2 k2 => ?_
      rcases (show a = 0 ∨ a = 1 ∨ a = 2 ∨ a = 3 ∨ a = 4 by omega) with rfl | rfl | rfl | rfl | rfl
      all_goals
        walk_at "go"
        refine expr_ok d n s dr sc fu xs _ _ _ _ (by omega) (by omega) sp2 (by walk_at "get") (by walk_at "get") n1 n2 n3 n4 fun e1 h3 f1 t1 sp3 l3 k3 => ?_
        walk_at "go"
        refine expr_ok d n s dr sc fu xs _ _ _ _ (by omega) (by omega) sp3 (by walk_at "get") (by walk_at "get") n1 n2 n3 n4 fun e2 h4 f2 t2 sp4 l4 k4 => ?_
        walk_at "go"
      · exact w (.op .add e1 e2) _ ⟨f1, f2⟩ (by simp only [Ep.ht]; omega) (by assumption) (by omega) (by walk_at "keep")
      · exact w (.op .sub e1 e2) _ ⟨f1, f2⟩ (by simp only [Ep.ht]; omega) (by assumption) (by omega) (by walk_at "keep")
      · exact w (.op .mul e1 e2) _ ⟨f1, f2⟩ (by simp only [Ep.ht]; omega) (by assumption) (by omega) (by walk_at "keep")
      · exact w (.op .less e1 e2) _ ⟨f1, f2⟩ (by simp only [Ep.ht]; omega) (by assumption) (by omega) (by walk_at "keep")
      · exact w (.op .same e1 e2) _ ⟨f1, f2⟩ (by simp only [Ep.ht]; omega) (by assumption) (by omega) (by walk_at "keep")
    case refine_1.inr.inr.inr.inr =>
      obtain ⟨d, rfl⟩ : ∃ d', d = d' + 1 := ⟨d - 1, by omega⟩
      iterate 8 try walk_at "br"
      refine draw1 (by assumption) (by decide) (by omega) fun a h2 a0 a1 sp2 l2 k2 => ?_
      obtain ⟨y, m, hm, ey⟩ := fn_at a0 a1
      have ef2 : h2[fu]? = some (.lst FN) := by walk_at "get"
      walk_at "go"
      rename_i p h3 e3 g1 g2 g3 k3
      refine comp_i (I := fun r acc h' => ∃ as : List Ep, acc = Ep.ds as ∧ Ep.fits as ∧ Ep.hts as ≤ 2 * d + 1 ∧ r.length + as.length = m ∧ Spr h' s dr ∧ h3.length ≤ h'.length ∧ Keep [s, dr, p] h3 h') ?_ ?_ _ _ _ e3 ⟨[], rfl, trivial, by simp [Ep.hts], by rw [range_len]; simp, sp2.mono k3 List.not_mem_nil List.not_mem_nil, Nat.le_refl _, Keep.refl⟩
      · rintro x r acc h4 K e4 ⟨as, rfl, ff, tt, ll, sp4, l4, k4⟩ hK
        walk_at "go"
        refine expr_ok d n s dr sc fu xs _ _ _ _ (by omega) (by omega) sp4 (by walk_at "get") (by walk_at "get") n1 n2 n3 n4 fun e1 h5 f1 t1 sp5 l5 k5 => ?_
        have e5 : h5[p]? = some (.lst (Ep.ds as)) := by walk_at "get"
        have hl := ds_len as
        simp only [List.length_cons] at ll
        refine rdL_i e5 (chk_i (small_lt (by omega)) (put_i e5 fun h6 e6 l6 k6 => hK _ _ e6 ⟨as ++ [e1], by rw [ds_app]; rfl, fits_app _ _ ff ⟨f1, trivial⟩, hts_app _ _ _ tt (by simp only [Ep.hts]; omega), by simp only [List.length_append, List.length_singleton]; omega, ?_, by omega, by walk_at "keep"⟩))
        exact sp5.mono k6 (by walk_at "mem") (by walk_at "mem")
      · rintro acc h4 e4 ⟨as, rfl, ff, tt, ll, sp4, l4, k4⟩
        have hl := ds_len as
        simp only [List.length_nil] at ll
        walk_at "go"
        exact w (.call y as) _ ⟨by omega, ff⟩ (by simp only [Ep.ht]; omega) sp4 (by omega) (by walk_at "keep")

end Lw

set_option Elab.async false
set_option linter.all false
set_option maxRecDepth 100000
set_option maxHeartbeats 1000000
namespace Lw
open PySem PySem.Spec PyProof.Rows L2 Mi
local macro_rules | `(tactic| walk_at "mem") => `(tactic| first | exact fun _ z => absurd z List.not_mem_nil | exact List.not_mem_nil | (intro i hi; simp only [List.mem_cons, List.not_mem_nil, or_false, false_or] at hi ⊢; omega) | (simp only [List.mem_cons, List.not_mem_nil, or_false, false_or, not_or]; omega))
local macro_rules | `(tactic| walk_at "get") => `(tactic| first | assumption | (apply Keep.get; assumption; walk_at "get"; walk_at "mem"))
local macro_rules | `(tactic| walk_at "keep") => `(tactic| first | assumption | exact Keep.refl | (apply Keep.step; assumption; walk_at "keep"; walk_at "mem"))
local macro_rules | `(tactic| walk_at "one") => `(tactic| (conv => whnf) <;> first
  | (refine rdO_i (by walk_at "get") ?_)
  | (refine itm_i (by first | rfl | assumption | exact getAt_end _ _) ?_)
  | (refine new_i ?_; intro p h' e1 l1 l2 l3 k)
  | (refine put_i (by walk_at "get") ?_; intro h' e1 l1 k)
  | (refine iLst_i (by first | rfl | exact intsOf_map _) ?_)
  | (refine br_t (by rfl) ?_)
  | (refine br_f (by rfl) ?_)
  | (refine chk_i (by first | rfl | assumption | exact mulOk_r (by decide) | exact mulOk_l (by decide) | exact small_lt (by simp only [List.length_map, List.length_cons, List.length_append, List.length_take, List.length_nil, List.length_replicate, List.length_dropLast]; omega) | exact lenOk_le (by simp only [List.length_map, List.length_cons, List.length_append, List.length_take, List.length_nil, List.length_replicate]; omega) | (simp; omega)) ?_))
local macro_rules | `(tactic| walk_at "go") => `(tactic| (repeat walk_at "one"); try (conv => whnf))
local macro_rules | `(tactic| walk_at "br") => `(tactic| (refine br_i (fun hc => ?_) (fun hc => ?_) <;> simp only [Bool.not_eq_true', Bool.not_eq_false', beq_iff_eq, beq_eq_false_iff_ne, ne_eq, decide_eq_true_eq, decide_eq_false_iff_not, bne_iff_ne, bne_eq_false_iff_eq] at hc) <;> first | (exfalso; omega) | walk_at "go")

mutual
def Ep.nm : Ep → Int → List Int
  | .op _ a b, k => k :: (a.nm k ++ (k + 1) :: b.nm (k + 1))
  | .call _ as, k => Ep.nmL as k
  | _, _ => []
def Ep.nmL : List Ep → Int → List Int
  | [], _ => []
  | a :: as, k => k :: (a.nm k ++ Ep.nmL as (k + 1))
end
mutual
def Ep.sz : Ep → Nat
  | .op _ a b => a.sz + b.sz + 2
  | .call _ as => Ep.szs as
  | _ => 0
def Ep.szs : List Ep → Nat
  | [] => 0
  | a :: as => a.sz + Ep.szs as + 1
end
mutual
theorem nm_len : ∀ (e : Ep) (k : Int), (e.nm k).length = e.sz
  | .num _, _ => by simp [Ep.nm, Ep.sz]
  | .nam _, _ => by simp [Ep.nm, Ep.sz]
  | .inn, _ => by simp [Ep.nm, Ep.sz]
  | .op _ a b, k => by
    have := nm_len a k
    have := nm_len b (k + 1)
    simp only [Ep.nm, Ep.sz, List.length_cons, List.length_append]
    omega
  | .call _ as, k => by simp only [Ep.nm, Ep.sz, nmL_len as k]
theorem nmL_len : ∀ (e : List Ep) (k : Int), (Ep.nmL e k).length = Ep.szs e
  | [], _ => rfl
  | a :: as, k => by
    have := nm_len a k
    have := nmL_len as (k + 1)
    simp only [Ep.nmL, Ep.szs, List.length_cons, List.length_append]
    omega
end
theorem nmL_app : ∀ (as bs : List Ep) (k : Int), Ep.nmL (as ++ bs) k = Ep.nmL as k ++ Ep.nmL bs (k + as.length)
  | [], bs, k => by simp [Ep.nmL]
  | a :: as, bs, k => by
    have := nmL_app as bs (k + 1)
    have e : k + 1 + (as.length : Int) = k + ((a :: as).length : Int) := by simp only [List.length_cons]; omega
    rw [e] at this
    simp only [List.cons_append, Ep.nmL, this, List.append_assoc]
theorem foldl_max_max (l : List Int) (a b : Int) : l.foldl max (max a b) = max a (l.foldl max b) := by
  induction l generalizing a b with
  | nil => rfl
  | cons x l ih => simp only [List.foldl_cons]; rw [show max (max a b) x = max a (max b x) by omega, ih]
mutual
theorem nm_need : ∀ (e : Ep) (k z : Int), 0 ≤ k → 0 ≤ z → (e.nm k).foldl max (z - 1) = max z (e.need k) - 1
  | .num _, _, _, _, _ => by simp only [Ep.nm, Ep.need, List.foldl_nil]; omega
  | .nam _, _, _, _, _ => by simp only [Ep.nm, Ep.need, List.foldl_nil]; omega
  | .inn, _, _, _, _ => by simp only [Ep.nm, Ep.need, List.foldl_nil]; omega
  | .op _ a b, k, z, hk, hz => by
    have h1 := nm_need a k (max z (k + 1)) hk (by omega)
    have h2 := nm_need b (k + 1) (max (max (max z (k + 1)) (a.need k)) (k + 2)) (by omega) (by omega)
    simp only [Ep.nm, Ep.need, List.foldl_cons, List.foldl_append]
    rw [show max (z - 1) k = max z (k + 1) - 1 by omega, h1, show max (max (max z (k + 1)) (a.need k) - 1) (k + 1) = max (max (max z (k + 1)) (a.need k)) (k + 2) - 1 by omega, h2]
    omega
  | .call _ as, k, z, hk, hz => by
    simp only [Ep.nm, Ep.need]
    rw [nmL_need as k z hk hz, show z = max z 0 by omega, foldl_max_max]
    omega
theorem nmL_need : ∀ (as : List Ep) (k z : Int), 0 ≤ k → 0 ≤ z → (Ep.nmL as k).foldl max (z - 1) = (Ep.argsL as k).foldl max z - 1
  | [], _, _, _, _ => rfl
  | a :: as, k, z, hk, hz => by
    have h1 := nm_need a k (max z (k + 1)) hk (by omega)
    have h2 := nmL_need as (k + 1) (max z (max (k + 1) (a.need k))) (by omega) (by omega)
    simp only [Ep.nmL, Ep.argsL, List.foldl_cons, List.foldl_append]
    rw [show max (z - 1) k = max z (k + 1) - 1 by omega, h1, show max (max z (k + 1)) (a.need k) - 1 = max z (max (k + 1) (a.need k)) - 1 by omega, h2]
end
theorem due_need (e : Ep) (k : Int) (hk : 0 ≤ k) : (e.nm k).foldl max (-1) + 1 = max 0 (e.need k) := by
  have := nm_need e k 0 hk (by omega)
  rw [show (-1 : Int) = 0 - 1 by omega, this]
  omega
mutual
theorem need_pos : ∀ (e : Ep) (k : Int), 0 ≤ k → 0 ≤ e.need k
  | .num _, _, _ => by simp [Ep.need]
  | .nam _, _, _ => by simp [Ep.need]
  | .inn, _, _ => by simp [Ep.need]
  | .op _ a b, k, hk => by simp only [Ep.need]; omega
  | .call _ as, k, hk => by
    simp only [Ep.need]
    have := foldl_max_max (Ep.argsL as k) 0 0
    simp only [Int.max_self] at this
    omega
end
theorem due_eq (e : Ep) (k : Int) (hk : 0 ≤ k) : (e.nm k).foldl max (-1) + 1 = e.need k := by
  have := need_pos e k hk
  have := due_need e k hk
  omega
mutual
theorem sz_le : ∀ (e : Ep), e.fit → e.sz ≤ 4 ^ e.ht
  | .num _, _ => by simp [Ep.sz]
  | .nam _, _ => by simp [Ep.sz]
  | .inn, _ => by simp [Ep.sz]
  | .op _ a b, f => by
    have h1 := sz_le a f.1
    have h2 := sz_le b f.2
    have g1 : 4 ^ a.ht ≤ 4 ^ (max a.ht b.ht) := Nat.pow_le_pow_right (by omega) (Nat.le_max_left ..)
    have g2 : 4 ^ b.ht ≤ 4 ^ (max a.ht b.ht) := Nat.pow_le_pow_right (by omega) (Nat.le_max_right ..)
    have g3 : 1 ≤ 4 ^ (max a.ht b.ht) := Nat.one_le_pow _ _ (by omega)
    simp only [Ep.sz, Ep.ht, Nat.pow_succ]
    omega
  | .call _ as, f => by
    have h1 := szs_le as f.2
    have g3 : 1 ≤ 4 ^ (Ep.hts as) := Nat.one_le_pow _ _ (by omega)
    have h2 : as.length * (4 ^ Ep.hts as + 1) ≤ 3 * (4 ^ Ep.hts as + 1) := Nat.mul_le_mul_right _ f.1
    simp only [Ep.sz, Ep.ht, Nat.pow_succ]
    omega
theorem szs_le : ∀ (as : List Ep), Ep.fits as → Ep.szs as ≤ as.length * (4 ^ Ep.hts as + 1)
  | [], _ => by simp [Ep.szs]
  | a :: as, f => by
    have h1 := sz_le a f.1
    have h2 := szs_le as f.2
    have g1 : 4 ^ a.ht ≤ 4 ^ (max a.ht (Ep.hts as)) := Nat.pow_le_pow_right (by omega) (Nat.le_max_left ..)
    have g2 : 4 ^ (Ep.hts as) ≤ 4 ^ (max a.ht (Ep.hts as)) := Nat.pow_le_pow_right (by omega) (Nat.le_max_right ..)
    have g4 : as.length * (4 ^ Ep.hts as + 1) ≤ as.length * (4 ^ (max a.ht (Ep.hts as)) + 1) := Nat.mul_le_mul_left _ (by omega)
    simp only [Ep.szs, Ep.hts, List.length_cons, Nat.add_mul]
    omega
end
/-! ### named, due -/
theorem len_szs : ∀ (as : List Ep), as.length ≤ Ep.szs as
  | [] => Nat.le_refl _
  | a :: as => by
    have := len_szs as
    simp only [Ep.szs, List.length_cons]
    omega
theorem intsOf_app : ∀ (xs : List Int) (ys : List Int), intsOf (xs.map D.int ++ ys.map D.int) = some (xs ++ ys)
  | xs, ys => by rw [← List.map_append]; exact intsOf_map _
theorem named_ok : ∀ (m : Nat) (e : Ep) (n f : Nat) (xs : List Int) (k : Int) (h : Hh) (Q : Kd) (X : Ex), e.ht ≤ n → n ≤ m → h[f]? = some (.lst (xs.map .int)) → xs.length + e.sz < 16777216 →
    (∀ (d : D) h', h'[f]? = some (.lst ((xs ++ e.nm k).map .int)) → h.length ≤ h'.length → Keep [f] h h' → Q d h') → rn n i_law_named [e.d, .int k, .ref f] h Q X
  | _, e, 0, _, _, _, _, _, _, h0, _, _, _, _ => by cases e <;> simp [Ep.ht] at h0
  | 0, e, n + 1, _, _, _, _, _, _, _, hn, _, _, _ => absurd hn (by omega)
  | m + 1, e, n + 1, f, xs, k, h, Q, X, hm, hn, ef, hl, w => by
    refine u_law_named ?_
    have hf := lt_of ef
    cases e with
    | num z =>
      walk_at "go"
      exact w _ _ (by simpa [Ep.nm] using ef) (Nat.le_refl _) Keep.refl
    | nam z =>
      walk_at "go"
      exact w _ _ (by simpa [Ep.nm] using ef) (Nat.le_refl _) Keep.refl
    | inn =>
      walk_at "go"
      exact w _ _ (by simpa [Ep.nm] using ef) (Nat.le_refl _) Keep.refl
    | op o a b =>
      have h1 : a.ht ≤ n := by simp only [Ep.ht] at hm; omega
      have h2 : b.ht ≤ n := by simp only [Ep.ht] at hm; omega
      have l1 := nm_len a k
      simp only [Ep.sz] at hl
      cases o
      all_goals
        walk_at "go"
        rename_i h3 e3 g3 k3
        refine named_ok m a n f (xs ++ [k]) k _ _ _ h1 (by omega) (by rw [e3]; simp) (by simp; omega) fun d4 h4 e4 g4 k4 => ?_
        walk_at "go"
        rename_i h5 e5 g5 k5
        refine named_ok m b n f (xs ++ [k] ++ a.nm k ++ [k + 1]) _ _ _ _ h2 (by omega) (by rw [e5]; simp) (by simp; omega) fun d6 h6 e6 g6 k6 => ?_
        walk_at "go"
        exact w _ _ (by rw [e6]; simp [Ep.nm]) (by omega) (by walk_at "keep")
    | call x as =>
      have hd := ds_len as
      simp only [Ep.sz] at hl
      have hq := len_szs as
      walk_at "go"
      refine loop_i (I := fun r σ h' => ∃ (as1 as2 : List Ep) (x2 : Option D), as = as1 ++ as2 ∧ r = range as2.length 0 as1.length ∧ σ = [some (Ep.call x as).d, some (.int k), some (.ref f), x2] ∧ h'[f]? = some (.lst ((xs ++ Ep.nmL as1 k).map .int)) ∧ h.length ≤ h'.length ∧ Keep [f] h h') ?_ ?_ _ _ _ ?_
      · rintro x3 r σ h2 K ⟨as1, as2, x2, ea, er, rfl, e2, l2, k2⟩ hK
        obtain ⟨m', em, rfl, rfl⟩ := range_cons er
        cases as2 with
        | nil => cases em
        | cons a as2 =>
          have em2 : as2.length = m' := by simpa using em
          have g0 : as[as1.length]? = some a := by rw [ea]; simp
          have gd := getAt_map (ds_at as _ a g0) (k := 0 + (as1.length : Int)) (by omega)
          have hs : Ep.szs as = Ep.szs as1 + (a.sz + Ep.szs as2 + 1) := by
            have := nmL_len as k
            rw [ea, nmL_app] at this
            simp only [List.length_append, nmL_len, Ep.szs] at this
            rw [ea]
            omega
          have ll := nmL_len as1 k
          have ha : a.ht ≤ Ep.hts as := hts_at as _ a g0
          simp only [Ep.ht] at hm
          walk_at "go"
          rename_i h3 e3 g3 k3
          have gz : k + (0 + (as1.length : Int)) = k + as1.length := by omega
          rw [gz] at e3 ⊢
          refine named_ok m a n f (xs ++ Ep.nmL as1 k ++ [k + as1.length]) _ _ _ _ (by omega) (by omega) (by rw [e3]; simp) (by simp only [List.length_append, List.length_singleton]; omega) fun d4 h4 e4 g4 k4 => ?_
          walk_at "go"
          refine hK _ _ ⟨as1 ++ [a], as2, _, by simp [ea], by rw [em2, List.length_append]; rfl, rfl, ?_, by omega, by walk_at "keep"⟩
          rw [e4, nmL_app]
          simp [Ep.nmL]
      · rintro σ h2 ⟨as1, as2, x2, ea, er, rfl, e2, l2, k2⟩
        have := List.eq_nil_of_length_eq_zero (range_nil er)
        subst this
        rw [List.append_nil] at ea
        subst ea
        walk_at "go"
        exact w _ _ (by rw [e2]; simp [Ep.nm]) (by omega) (by walk_at "keep")
      · exact ⟨[], as, _, rfl, by simp [hd], rfl, by simpa [Ep.nmL] using ef, Nat.le_refl _, Keep.refl⟩
theorem intsOf_c (a : Int) (xs : List Int) : intsOf ([D.int a] ++ xs.map D.int) = some (a :: xs) := intsOf_map (a :: xs)
theorem due_ok {n : Nat} {e : Ep} {k : Int} {h : Hh} {Q : Kd} {X : Ex} (hn : e.ht + 1 ≤ n) (hk : 0 ≤ k) (hl : e.sz < 16777215)
    (w : ∀ h', h.length ≤ h'.length → Keep [] h h' → Q (.int (e.need k)) h') : rn n i_law_due [e.d, .int k] h Q X := by
  cases n with
  | zero => omega
  | succ n =>
    refine u_law_due ?_
    walk_at "go"
    rename_i p h1 e1 g1 g2 g3 k1
    refine named_ok n e n p [] k _ _ _ (by omega) (Nat.le_refl _) e1 (by simp; omega) fun d2 h2 e2 g4 k2 => ?_
    have hl2 := nm_len e k
    walk_at "go"
    rename_i p3 h3 e3 g5 g6 g7 k3
    refine iLst_i (intsOf_c _ _) ?_
    walk_at "go"
    rw [maxI_max, List.nil_append, due_eq e k hk]
    exact w _ (by omega) (by walk_at "keep")

end Lw

set_option Elab.async false
set_option linter.all false
set_option maxRecDepth 100000
set_option maxHeartbeats 1000000
namespace Lw
open PySem PySem.Spec PyProof.Rows L2 Mi
local macro_rules | `(tactic| walk_at "mem") => `(tactic| first | exact fun _ z => absurd z List.not_mem_nil | exact List.not_mem_nil | (intro i hi; simp only [List.mem_cons, List.not_mem_nil, or_false, false_or] at hi ⊢; omega) | (simp only [List.mem_cons, List.not_mem_nil, or_false, false_or, not_or]; omega))
local macro_rules | `(tactic| walk_at "get") => `(tactic| first | assumption | (apply Keep.get; assumption; walk_at "get"; walk_at "mem"))
local macro_rules | `(tactic| walk_at "keep") => `(tactic| first | assumption | exact Keep.refl | (apply Keep.step; assumption; walk_at "keep"; walk_at "mem"))
local macro_rules | `(tactic| walk_at "one") => `(tactic| (conv => whnf) <;> first
  | (refine rdO_i (by walk_at "get") ?_)
  | (refine itm_i (by first | rfl | assumption | exact getAt_end _ _) ?_)
  | (refine new_i ?_; intro p h' e1 l1 l2 l3 k)
  | (refine put_i (by walk_at "get") ?_; intro h' e1 l1 k)
  | (refine iLst_i (by first | rfl | exact intsOf_map _) ?_)
  | (refine br_t (by rfl) ?_)
  | (refine br_f (by rfl) ?_)
  | (refine chk_i (by first | rfl | assumption | exact mulOk_r (by decide) | exact mulOk_l (by decide) | exact small_lt (by simp only [List.length_map, List.length_cons, List.length_append, List.length_take, List.length_nil, List.length_replicate, List.length_dropLast]; omega) | exact lenOk_le (by simp only [List.length_map, List.length_cons, List.length_append, List.length_take, List.length_nil, List.length_replicate]; omega) | (simp; omega)) ?_))
local macro_rules | `(tactic| walk_at "go") => `(tactic| (repeat walk_at "one"); try (conv => whnf))
local macro_rules | `(tactic| walk_at "br") => `(tactic| (refine br_i (fun hc => ?_) (fun hc => ?_) <;> simp only [Bool.not_eq_true', Bool.not_eq_false', beq_iff_eq, beq_eq_false_iff_ne, ne_eq, decide_eq_true_eq, decide_eq_false_iff_not, bne_iff_ne, bne_eq_false_iff_eq] at hc) <;> first | (exfalso; omega) | walk_at "go")

inductive St where
  | var (x : Str) (e : Ep) | set (x : Str) (e : Ep) | call (x : Str) (as : List Ep) | hold (b : List St) | whl (e : Ep) (b : List St) | ifs (e : Ep) (b c : List St) | ret (e : Ep) | out (e : Ep)
mutual
def St.d : St → D
  | .var x e => .tup [.str w_var, .str x, e.d]
  | .set x e => .tup [.str w_set, .str x, e.d]
  | .call x as => .tup [.str w_call, .str x, .tup (Ep.ds as)]
  | .hold b => .tup [.str w_hold, .tup (St.ds b)]
  | .whl e b => .tup [.str w_while, e.d, .tup (St.ds b)]
  | .ifs e b c => .tup [.str w_if, e.d, .tup (St.ds b), .tup (St.ds c)]
  | .ret e => .tup [.str w_return, e.d]
  | .out e => .tup [.str w_out, e.d]
def St.ds : List St → List D
  | [] => []
  | s :: b => s.d :: St.ds b
end
mutual
def St.need : St → Int
  | .var _ e => e.need 0
  | .set _ e => e.need 0
  | .call x as => (Ep.call x as).need 0
  | .hold b => St.bneed b
  | .whl e b => max (St.bneed b) (max 1 (e.need 0))
  | .ifs e b c => max (max (St.bneed b) (St.bneed c)) (max 1 (e.need 0))
  | .ret e => e.need 0
  | .out e => max 1 (e.need 0)
def St.bneed : List St → Int
  | [] => 0
  | s :: b => max s.need (St.bneed b)
end
mutual
def St.fit : St → Prop
  | .var _ e => e.fit ∧ e.ht ≤ 7
  | .set _ e => e.fit ∧ e.ht ≤ 7
  | .call x as => (Ep.call x as).fit ∧ (Ep.call x as).ht ≤ 7
  | .hold b => St.fits b
  | .whl e b => (e.fit ∧ e.ht ≤ 7) ∧ St.fits b
  | .ifs e b c => (e.fit ∧ e.ht ≤ 7) ∧ St.fits b ∧ St.fits c
  | .ret e => e.fit ∧ e.ht ≤ 7
  | .out e => e.fit ∧ e.ht ≤ 7
def St.fits : List St → Prop
  | [] => True
  | s :: b => s.fit ∧ St.fits b
end
mutual
def St.ht : St → Nat
  | .hold b => St.bht b + 1
  | .whl _ b => St.bht b + 1
  | .ifs _ b c => max (St.bht b) (St.bht c) + 1
  | _ => 0
def St.bht : List St → Nat
  | [] => 1
  | s :: b => max (s.ht + 1) (St.bht b)
end
mutual
def St.ct : St → Nat
  | .hold b => St.bct b + 1
  | .whl _ b => St.bct b + 1
  | .ifs _ b c => St.bct b + St.bct c + 1
  | _ => 1
def St.bct : List St → Nat
  | [] => 0
  | s :: b => s.ct + St.bct b
end
theorem sds_app : ∀ (a b : List St), St.ds (a ++ b) = St.ds a ++ St.ds b
  | [], _ => rfl
  | a :: as, bs => by show a.d :: St.ds (as ++ bs) = _; rw [sds_app as bs]; rfl
theorem sds_len : ∀ as : List St, (St.ds as).length = as.length
  | [] => rfl
  | a :: as => by show (St.ds as).length + 1 = _; rw [sds_len as]; rfl
theorem sfits_app : ∀ (as bs : List St), St.fits as → St.fits bs → St.fits (as ++ bs)
  | [], _, _, b => b
  | a :: as, bs, f, b => ⟨f.1, sfits_app as bs f.2 b⟩
theorem sbht_app : ∀ (as bs : List St) (m : Nat), St.bht as ≤ m → St.bht bs ≤ m → St.bht (as ++ bs) ≤ m
  | [], _, _, _, b => b
  | a :: as, bs, m, f, b => by
    have e : St.bht (a :: as) = max (a.ht + 1) (St.bht as) := rfl
    have e2 : St.bht (a :: as ++ bs) = max (a.ht + 1) (St.bht (as ++ bs)) := rfl
    have := sbht_app as bs m (by omega) b
    omega
theorem sbct_app : ∀ (as bs : List St), St.bct (as ++ bs) = St.bct as + St.bct bs
  | [], b => by simp [St.bct]
  | a :: as, bs => by
    have := sbct_app as bs
    simp only [List.cons_append, St.bct]
    omega
theorem one8 (d : Nat) : 1 ≤ 2 * 8 ^ d := by have := Nat.one_le_pow d 8 (by omega); omega
structure Env (h : Hh) (s dr sp sc fu : Nat) (xs ys : List Str) : Prop where
  spr : Spr h s dr
  esp : h[sp]? = some (.lst (ys.map .str))
  esc : h[sc]? = some (.lst (xs.map .str))
  efu : h[fu]? = some (.lst FN)
  n : (sp ≠ s ∧ sp ≠ dr ∧ sp ≠ sc) ∧ (sc ≠ s ∧ sc ≠ dr) ∧ (fu ≠ s ∧ fu ≠ dr ∧ fu ≠ sp ∧ fu ≠ sc)
  big : xs.length + ys.length < 1000
theorem Env.mono2 {h h' : Hh} {s dr sp sc fu : Nat} {xs ys xs' ys' : List Str} (v : Env h s dr sp sc fu xs ys) (b : xs'.length + ys'.length < 1000) (s2 : Spr h' s dr)
    (a1 : h'[sp]? = some (.lst (ys'.map .str))) (a2 : h'[sc]? = some (.lst (xs'.map .str))) (a3 : h'[fu]? = some (.lst FN)) : Env h' s dr sp sc fu xs' ys' := ⟨s2, a1, a2, a3, v.n, b⟩
def StmSpec (d : Nat) : Prop := ∀ (n : Nat) (s dr sp sc fu : Nat) (xs ys : List Str) (z pl : Int) (h : Hh) (Q : Kd) (X : Ex), 2 * d + 6 ≤ n → z = d → Env h s dr sp sc fu xs ys →
    (∀ (t : St) (xs' ys' : List Str) (h' : Hh), t.fit → t.ht ≤ 2 * d → t.ct ≤ 2 * 8 ^ d → Env h' s dr sp sc fu xs' ys' → xs'.length + ys'.length ≤ xs.length + ys.length → ys'.length ≤ ys.length → h.length ≤ h'.length → Keep [s, dr, sp, sc] h h' → Q t.d h') →
    rn n i_law_statement [.ref s, .ref sp, .ref sc, .ref fu, .int z, .int pl] h Q X
def BlkSpec (d : Nat) : Prop := ∀ (n : Nat) (s dr sp sc fu : Nat) (xs ys : List Str) (z pl : Int) (h : Hh) (Q : Kd) (X : Ex), 2 * d + 7 ≤ n → z = d → Env h s dr sp sc fu xs ys →
    (∀ (b : List St) (ys' : List Str) (h' : Hh), St.fits b → St.bht b ≤ 2 * d + 1 → St.bct b ≤ 6 * 8 ^ d → Env h' s dr sp sc fu xs ys' → ys'.length ≤ ys.length → h.length ≤ h'.length → Keep [s, dr, sp] h h' → Q (.tup (St.ds b)) h') →
    rn n i_law_block [.ref s, .ref sp, .ref sc, .ref fu, .int z, .int pl] h Q X
theorem cut_all (xs : List D) : Mi.cutD xs none none = xs := by simp [Mi.cutD, HT.sIx]
theorem blk_of (d : Nat) (ih : StmSpec d) : BlkSpec d
  | 0, _, _, _, _, _, _, _, _, _, _, _, _, hn, _, _, _ => absurd hn (by omega)
  | n + 1, s, dr, sp, sc, fu, xs, ys, z, pl, h, Q, X, hn, hz, v, w => by
    have s1 := v.spr.lt
    have s2 := lt_of v.esp
    have s3 := lt_of v.esc
    have s4 := lt_of v.efu
    obtain ⟨spr, esp, esc, efu, ⟨⟨v1, v2, v3⟩, ⟨v4, v5⟩, ⟨v6, v7, v8, v9⟩⟩, big⟩ := v
    refine u_law_block ?_
    walk_at "go"
    rename_i q h1 e1 g1 g2 g3 k1
    rw [cut_all] at e1
    have spr1 := spr.mono k1 List.not_mem_nil List.not_mem_nil
    refine draw1 spr1 (by decide) (by omega) fun a h2 a0 a1 sp2 l2 k2 => ?_
    walk_at "go"
    refine draw1 sp2 (by decide) (by omega) fun b h3 b0 b1 sp3 l3 k3 => ?_
    obtain ⟨m, hm, eg⟩ : ∃ m : Nat, m ≤ 3 ∧ getAt [D.int 0, .int 1, .int 2, .int (1 + a)] b = some (.int m) := by
      rcases (show b = 0 ∨ b = 1 ∨ b = 2 ∨ b = 3 by omega) with rfl | rfl | rfl | rfl
      · exact ⟨0, by omega, rfl⟩
      · exact ⟨1, by omega, rfl⟩
      · exact ⟨2, by omega, rfl⟩
      · exact ⟨(1 + a).toNat, by omega, by rw [show ((1 + a).toNat : Int) = 1 + a by omega]; rfl⟩
    walk_at "go"
    rename_i p h4 e4 g4 g5 g6 k4
    have spr4 := sp3.mono k4 List.not_mem_nil List.not_mem_nil
    refine comp_i (I := fun r acc h' => ∃ (b : List St) (xs' ys' : List Str), acc = St.ds b ∧ St.fits b ∧ St.bht b ≤ 2 * d + 1 ∧ St.bct b ≤ b.length * (2 * 8 ^ d) ∧ r.length + b.length = m ∧ Env h' s dr sp q fu xs' ys' ∧ xs'.length + ys'.length ≤ xs.length + ys.length ∧ ys'.length ≤ ys.length ∧ h4.length ≤ h'.length ∧ Keep [s, dr, sp, q, p] h4 h') ?_ ?_ _ _ _ e4 ?_
    · rintro x r acc h5 K e5 ⟨b, xs', ys', rfl, ff, tt, cc, ll, v, lx, ly, l5, k5⟩ hK
      walk_at "go"
      refine ih n s dr sp q fu xs' ys' z pl _ _ X (by omega) hz v fun t xs2 ys2 h6 f6 t6 c6 v6 lx6 ly6 l6 k6 => ?_
      have e6 : h6[p]? = some (.lst (St.ds b)) := by walk_at "get"
      have hl := sds_len b
      simp only [List.length_cons] at ll
      refine rdL_i e6 (chk_i (small_lt (by omega)) (put_i e6 fun h7 e7 l7 k7 => hK _ _ e7 ⟨b ++ [t], xs2, ys2, by rw [sds_app]; rfl, sfits_app _ _ ff ⟨f6, trivial⟩, sbht_app _ _ _ tt (by simp only [St.bht]; omega), ?_, by simp only [List.length_append, List.length_singleton]; omega, ?_, by omega, by omega, by omega, by walk_at "keep"⟩))
      · rw [sbct_app, List.length_append, List.length_singleton, Nat.succ_mul]
        simp only [St.bct]
        omega
      · have := v6.esp
        have := v6.esc
        have := v6.efu
        exact v6.mono2 v6.big (v6.spr.mono k7 (by walk_at "mem") (by walk_at "mem")) (by walk_at "get") (by walk_at "get") (by walk_at "get")
    · rintro acc h5 e5 ⟨b, xs', ys', rfl, ff, tt, cc, ll, v, lx, ly, l5, k5⟩
      have hl := sds_len b
      simp only [List.length_nil] at ll
      have cc2 : b.length * (2 * 8 ^ d) ≤ 3 * (2 * 8 ^ d) := Nat.mul_le_mul_right _ (by omega)
      have := v.esp
      walk_at "go"
      exact w b ys' _ ff tt (by omega) ⟨v.spr, by walk_at "get", by walk_at "get", by walk_at "get", ⟨⟨v1, v2, v3⟩, ⟨v4, v5⟩, ⟨v6, v7, v8, v9⟩⟩, by omega⟩ ly (by omega) (by walk_at "keep")
    · exact ⟨[], xs, ys, rfl, trivial, by simp [St.bht], by simp [St.bct], by rw [range_len]; simp, ⟨spr4, by walk_at "get", by walk_at "get", by walk_at "get", ⟨⟨v1, v2, by omega⟩, ⟨by omega, by omega⟩, ⟨v6, v7, v8, by omega⟩⟩, big⟩, Nat.le_refl _, Nat.le_refl _, Nat.le_refl _, Keep.refl⟩

end Lw

set_option Elab.async false
set_option linter.all false
set_option maxRecDepth 100000
set_option maxHeartbeats 1000000
namespace Lw
open PySem PySem.Spec PyProof.Rows L2 Mi
local macro_rules | `(tactic| walk_at "mem") => `(tactic| first | exact fun _ z => absurd z List.not_mem_nil | exact List.not_mem_nil | (intro i hi; simp only [List.mem_cons, List.not_mem_nil, or_false, false_or] at hi ⊢; omega) | (simp only [List.mem_cons, List.not_mem_nil, or_false, false_or, not_or]; omega))
local macro_rules | `(tactic| walk_at "get") => `(tactic| first | assumption | (apply Keep.get; assumption; walk_at "get"; walk_at "mem"))
local macro_rules | `(tactic| walk_at "keep") => `(tactic| first | assumption | exact Keep.refl | (apply Keep.step; assumption; walk_at "keep"; walk_at "mem"))
local macro_rules | `(tactic| walk_at "one") => `(tactic| (conv => whnf) <;> first
  | (refine rdO_i (by walk_at "get") ?_)
  | (refine itm_i (by first | rfl | assumption | exact getAt_end _ _) ?_)
  | (refine new_i ?_; intro p h' e1 l1 l2 l3 k)
  | (refine put_i (by walk_at "get") ?_; intro h' e1 l1 k)
  | (refine iLst_i (by first | rfl | exact intsOf_map _) ?_)
  | (refine br_t (by rfl) ?_)
  | (refine br_f (by rfl) ?_)
  | (refine chk_i (by first | rfl | assumption | exact mulOk_r (by decide) | exact mulOk_l (by decide) | exact small_lt (by simp only [List.length_map, List.length_cons, List.length_append, List.length_take, List.length_nil, List.length_replicate, List.length_dropLast]; omega) | exact lenOk_le (by simp only [List.length_map, List.length_cons, List.length_append, List.length_take, List.length_nil, List.length_replicate]; omega) | (simp; omega)) ?_))
local macro_rules | `(tactic| walk_at "go") => `(tactic| (repeat walk_at "one"); try (conv => whnf))
local macro_rules | `(tactic| walk_at "br") => `(tactic| (refine br_i (fun hc => ?_) (fun hc => ?_) <;> simp only [Bool.not_eq_true', Bool.not_eq_false', beq_iff_eq, beq_eq_false_iff_ne, ne_eq, decide_eq_true_eq, decide_eq_false_iff_not, bne_iff_ne, bne_eq_false_iff_eq] at hc) <;> first | (exfalso; omega) | walk_at "go")

theorem stm_of (d : Nat) (ih : ∀ d', d = d' + 1 → BlkSpec d') : StmSpec d
  | 0, _, _, _, _, _, _, _, _, _, _, _, _, hn, _, _, _ => absurd hn (by omega)
  | n + 1, s, dr, sp, sc, fu, xs, ys, z, pl, h, Q, X, hn, hz, v, w => by
    have s1 := v.spr.lt
    have s2 := lt_of v.esp
    have s3 := lt_of v.esc
    have s4 := lt_of v.efu
    obtain ⟨⟨v1, v2, v3⟩, ⟨v4, v5⟩, ⟨v6, v7, v8, v9⟩⟩ := v.n
    refine u_law_statement ?_
    walk_at "go"
    refine draw1 v.spr (by decide) (by omega) fun a h1 a0 a1 sp1 l1 k1 => ?_
    replace v : Env h1 s dr sp sc fu xs ys := v.mono2 v.big sp1 (k1.get v.esp (by walk_at "mem")) (k1.get v.esc (by walk_at "mem")) (k1.get v.efu (by walk_at "mem"))
    have g1 := v.esp
    have g2 := v.esc
    have g0 := v.efu
    have hlx : (List.map D.str xs).length = xs.length := List.length_map ..
    have hly : (List.map D.str ys).length = ys.length := List.length_map ..
    rcases (show a = 0 ∨ a = 1 ∨ a = 2 ∨ a = 3 ∨ a = 4 ∨ a = 5 ∨ a = 6 ∨ a = 7 ∨ a = 8 ∨ a = 9 by omega) with rfl | rfl | rfl | rfl | rfl | rfl | rfl | rfl | rfl | rfl
    all_goals walk_at "go"
    · walk_at "br"
      · rename_i hc
        have f1 := v.spr
        have f2 := v.esc
        have f3 := v.efu
        have f4 := v.esp
        refine expr_ok 2 n s dr sc fu _ _ _ _ _ (by omega) rfl f1 f2 f3 v4 v5 v6 v7 fun e h2 q2 t2 sp2 l2 k2 => ?_
        rcases List.eq_nil_or_concat ys with rfl | ⟨ys, y, rfl⟩
        · simp at hc
        simp only [List.map_append, List.map_cons, List.map_nil, List.concat_eq_append] at f4
        have e2 : h2[sp]? = some (.lst (List.map D.str ys ++ [.str y])) := by walk_at "get"
        have e3 : h2[sc]? = some (.lst (List.map D.str xs)) := by walk_at "get"
        have bb := v.big
        simp only [List.concat_eq_append, List.length_append, List.length_singleton] at bb w
        walk_at "go"
        rename_i h5 e5 l5 k5 h6 e6 l6 k6
        rw [List.dropLast_concat] at e5
        have sp6 : Spr h6 s dr := (sp2.mono k5 (by walk_at "mem") (by walk_at "mem")).mono k6 (by walk_at "mem") (by walk_at "mem")
        exact w (.var y e) (xs ++ [y]) ys _ ⟨q2, by omega⟩ (by simp only [St.ht]; omega) (by simp only [St.ct]; exact one8 _) (v.mono2 (by simp only [List.length_append, List.length_singleton]; omega) sp6 (by walk_at "get") (by rw [e6]; simp) (by walk_at "get")) (by simp only [List.length_append, List.length_singleton]; omega) (by omega) (by omega) (by walk_at "keep")
      · have f1 := v.spr
        have f2 := v.esc
        have f3 := v.efu
        have f4 := v.esp
        refine expr_ok 2 n s dr sc fu _ _ _ _ _ (by omega) rfl (by assumption) (by walk_at "get") (by walk_at "get") v4 v5 v6 v7 fun e h2 f2 t2 sp2 l2 k2 => ?_
        walk_at "go"
        exact w (.out e) xs ys _ ⟨f2, by omega⟩ (by simp only [St.ht]; omega) (by simp only [St.ct]; exact one8 _) (v.mono2 v.big sp2 (by walk_at "get") (by walk_at "get") (by walk_at "get")) (Nat.le_refl _) (Nat.le_refl _) (by omega) (by walk_at "keep")
    · walk_at "br"
      · rename_i hc
        have f1 := v.spr
        have f2 := v.esc
        have f3 := v.efu
        have f4 := v.esp
        refine expr_ok 2 n s dr sc fu _ _ _ _ _ (by omega) rfl f1 f2 f3 v4 v5 v6 v7 fun e h2 q2 t2 sp2 l2 k2 => ?_
        rcases List.eq_nil_or_concat ys with rfl | ⟨ys, y, rfl⟩
        · simp at hc
        simp only [List.map_append, List.map_cons, List.map_nil, List.concat_eq_append] at f4
        have e2 : h2[sp]? = some (.lst (List.map D.str ys ++ [.str y])) := by walk_at "get"
        have e3 : h2[sc]? = some (.lst (List.map D.str xs)) := by walk_at "get"
        have bb := v.big
        simp only [List.concat_eq_append, List.length_append, List.length_singleton] at bb w
        walk_at "go"
        rename_i h5 e5 l5 k5 h6 e6 l6 k6
        rw [List.dropLast_concat] at e5
        have sp6 : Spr h6 s dr := (sp2.mono k5 (by walk_at "mem") (by walk_at "mem")).mono k6 (by walk_at "mem") (by walk_at "mem")
        exact w (.var y e) (xs ++ [y]) ys _ ⟨q2, by omega⟩ (by simp only [St.ht]; omega) (by simp only [St.ct]; exact one8 _) (v.mono2 (by simp only [List.length_append, List.length_singleton]; omega) sp6 (by walk_at "get") (by rw [e6]; simp) (by walk_at "get")) (by simp only [List.length_append, List.length_singleton]; omega) (by omega) (by omega) (by walk_at "keep")
      · have f1 := v.spr
        have f2 := v.esc
        have f3 := v.efu
        have f4 := v.esp
        refine expr_ok 2 n s dr sc fu _ _ _ _ _ (by omega) rfl (by assumption) (by walk_at "get") (by walk_at "get") v4 v5 v6 v7 fun e h2 f2 t2 sp2 l2 k2 => ?_
        walk_at "go"
        exact w (.out e) xs ys _ ⟨f2, by omega⟩ (by simp only [St.ht]; omega) (by simp only [St.ct]; exact one8 _) (v.mono2 v.big sp2 (by walk_at "get") (by walk_at "get") (by walk_at "get")) (Nat.le_refl _) (Nat.le_refl _) (by omega) (by walk_at "keep")
    · walk_at "br"
      · have f1 := v.spr
        have f2 := v.esc
        have f3 := v.efu
        have f4 := v.esp
        refine draw1 v.spr (by omega) (by omega) fun a h2 a0 a1 sp2 l2 k2 => ?_
        obtain ⟨y, my, ey⟩ := getAt_ok (f := D.str) a0 (hlx ▸ a1)
        have e2 : h2[sc]? = some (.lst (xs.map .str)) := by walk_at "get"
        walk_at "go"
        refine expr_ok 3 n s dr sc fu _ _ _ _ _ (by omega) rfl sp2 e2 (by walk_at "get") v4 v5 v6 v7 fun e h3 q3 t3 sp3 l3 k3 => ?_
        walk_at "go"
        exact w (.set y e) xs ys _ ⟨q3, by omega⟩ (by simp only [St.ht]; omega) (by simp only [St.ct]; exact one8 _) (v.mono2 v.big sp3 (by walk_at "get") (by walk_at "get") (by walk_at "get")) (Nat.le_refl _) (Nat.le_refl _) (by omega) (by walk_at "keep")
      · have f1 := v.spr
        have f2 := v.esc
        have f3 := v.efu
        have f4 := v.esp
        refine expr_ok 2 n s dr sc fu _ _ _ _ _ (by omega) rfl (by assumption) (by walk_at "get") (by walk_at "get") v4 v5 v6 v7 fun e h2 f2 t2 sp2 l2 k2 => ?_
        walk_at "go"
        exact w (.out e) xs ys _ ⟨f2, by omega⟩ (by simp only [St.ht]; omega) (by simp only [St.ct]; exact one8 _) (v.mono2 v.big sp2 (by walk_at "get") (by walk_at "get") (by walk_at "get")) (Nat.le_refl _) (Nat.le_refl _) (by omega) (by walk_at "keep")
    · have f1 := v.spr
      have f2 := v.esc
      have f3 := v.efu
      have f4 := v.esp
      refine draw1 v.spr (by decide) (by omega) fun a h2 a0 a1 sp2 l2 k2 => ?_
      obtain ⟨y, m, hm, ey⟩ := fn_at a0 a1
      have ef2 : h2[fu]? = some (.lst FN) := by walk_at "get"
      walk_at "go"
      rename_i p h3 e3 g1 g2 g3 k3
      refine comp_i (I := fun r acc h' => ∃ as : List Ep, acc = Ep.ds as ∧ Ep.fits as ∧ Ep.hts as ≤ 5 ∧ r.length + as.length = m ∧ Spr h' s dr ∧ h3.length ≤ h'.length ∧ Keep [s, dr, p] h3 h') ?_ ?_ _ _ _ e3 ⟨[], rfl, trivial, by simp [Ep.hts], by rw [range_len]; simp, sp2.mono k3 List.not_mem_nil List.not_mem_nil, Nat.le_refl _, Keep.refl⟩
      · rintro x r acc h4 K e4 ⟨as, rfl, ff, tt, ll, sp4, l4, k4⟩ hK
        walk_at "go"
        refine expr_ok 2 n s dr sc fu xs _ _ _ _ (by omega) (by omega) sp4 (by walk_at "get") (by walk_at "get") v4 v5 v6 v7 fun e1 h5 f1 t1 sp5 l5 k5 => ?_
        have e5 : h5[p]? = some (.lst (Ep.ds as)) := by walk_at "get"
        have hl := ds_len as
        simp only [List.length_cons] at ll
        refine rdL_i e5 (chk_i (small_lt (by omega)) (put_i e5 fun h6 e6 l6 k6 => hK _ _ e6 ⟨as ++ [e1], by rw [ds_app]; rfl, fits_app _ _ ff ⟨f1, trivial⟩, hts_app _ _ _ tt (by simp only [Ep.hts]; omega), by simp only [List.length_append, List.length_singleton]; omega, ?_, by omega, by walk_at "keep"⟩))
        exact sp5.mono k6 (by walk_at "mem") (by walk_at "mem")
      · rintro acc h4 e4 ⟨as, rfl, ff, tt, ll, sp4, l4, k4⟩
        have hl := ds_len as
        simp only [List.length_nil] at ll
        walk_at "go"
        exact w (.call y as) xs ys _ ⟨⟨by omega, ff⟩, by simp only [Ep.ht]; omega⟩ (by simp only [St.ht]; omega) (by simp only [St.ct]; exact one8 _) (v.mono2 v.big sp4 (by walk_at "get") (by walk_at "get") (by walk_at "get")) (Nat.le_refl _) (Nat.le_refl _) (by omega) (by walk_at "keep")
    · have f1 := v.spr
      have f2 := v.esc
      have f3 := v.efu
      have f4 := v.esp
      refine draw1 v.spr (by decide) (by omega) fun a h2 a0 a1 sp2 l2 k2 => ?_
      obtain ⟨y, m, hm, ey⟩ := fn_at a0 a1
      have ef2 : h2[fu]? = some (.lst FN) := by walk_at "get"
      walk_at "go"
      rename_i p h3 e3 g1 g2 g3 k3
      refine comp_i (I := fun r acc h' => ∃ as : List Ep, acc = Ep.ds as ∧ Ep.fits as ∧ Ep.hts as ≤ 5 ∧ r.length + as.length = m ∧ Spr h' s dr ∧ h3.length ≤ h'.length ∧ Keep [s, dr, p] h3 h') ?_ ?_ _ _ _ e3 ⟨[], rfl, trivial, by simp [Ep.hts], by rw [range_len]; simp, sp2.mono k3 List.not_mem_nil List.not_mem_nil, Nat.le_refl _, Keep.refl⟩
      · rintro x r acc h4 K e4 ⟨as, rfl, ff, tt, ll, sp4, l4, k4⟩ hK
        walk_at "go"
        refine expr_ok 2 n s dr sc fu xs _ _ _ _ (by omega) (by omega) sp4 (by walk_at "get") (by walk_at "get") v4 v5 v6 v7 fun e1 h5 f1 t1 sp5 l5 k5 => ?_
        have e5 : h5[p]? = some (.lst (Ep.ds as)) := by walk_at "get"
        have hl := ds_len as
        simp only [List.length_cons] at ll
        refine rdL_i e5 (chk_i (small_lt (by omega)) (put_i e5 fun h6 e6 l6 k6 => hK _ _ e6 ⟨as ++ [e1], by rw [ds_app]; rfl, fits_app _ _ ff ⟨f1, trivial⟩, hts_app _ _ _ tt (by simp only [Ep.hts]; omega), by simp only [List.length_append, List.length_singleton]; omega, ?_, by omega, by walk_at "keep"⟩))
        exact sp5.mono k6 (by walk_at "mem") (by walk_at "mem")
      · rintro acc h4 e4 ⟨as, rfl, ff, tt, ll, sp4, l4, k4⟩
        have hl := ds_len as
        simp only [List.length_nil] at ll
        walk_at "go"
        exact w (.call y as) xs ys _ ⟨⟨by omega, ff⟩, by simp only [Ep.ht]; omega⟩ (by simp only [St.ht]; omega) (by simp only [St.ct]; exact one8 _) (v.mono2 v.big sp4 (by walk_at "get") (by walk_at "get") (by walk_at "get")) (Nat.le_refl _) (Nat.le_refl _) (by omega) (by walk_at "keep")
    · walk_at "br"
      · obtain ⟨d, rfl⟩ : ∃ d', d = d' + 1 := ⟨d - 1, by omega⟩
        refine ih d rfl n s dr sp sc fu xs ys _ _ _ _ X (by omega) (by omega) v fun b ys2 h2 f2 t2 c2 v2 ly2 l2 k2 => ?_
        walk_at "go"
        exact w (.hold b) xs ys2 _ f2 (by simp only [St.ht]; omega) (by simp only [St.ct]; rw [Nat.pow_succ]; have := one8 d; omega) v2 (by omega) (by omega) (by omega) (by walk_at "keep")
      · have f1 := v.spr
        have f2 := v.esc
        have f3 := v.efu
        have f4 := v.esp
        refine expr_ok 2 n s dr sc fu _ _ _ _ _ (by omega) rfl (by assumption) (by walk_at "get") (by walk_at "get") v4 v5 v6 v7 fun e h2 f2 t2 sp2 l2 k2 => ?_
        walk_at "go"
        exact w (.out e) xs ys _ ⟨f2, by omega⟩ (by simp only [St.ht]; omega) (by simp only [St.ct]; exact one8 _) (v.mono2 v.big sp2 (by walk_at "get") (by walk_at "get") (by walk_at "get")) (Nat.le_refl _) (Nat.le_refl _) (by omega) (by walk_at "keep")
    · walk_at "br"
      · obtain ⟨d, rfl⟩ : ∃ d', d = d' + 1 := ⟨d - 1, by omega⟩
        have f1 := v.spr
        have f2 := v.esc
        have f3 := v.efu
        have f4 := v.esp
        refine expr_ok 2 n s dr sc fu _ _ _ _ _ (by omega) rfl f1 f2 f3 v4 v5 v6 v7 fun e h2 q2 t2 sp2 l2 k2 => ?_
        replace v : Env h2 s dr sp sc fu xs ys := v.mono2 v.big sp2 (by walk_at "get") (by walk_at "get") (by walk_at "get")
        walk_at "go"
        refine ih d rfl n s dr sp sc fu xs ys _ _ _ _ X (by omega) (by omega) v fun b ys2 h3 q3 t3 c3 v3 ly3 l3 k3 => ?_
        walk_at "go"
        exact w (.whl e b) xs ys2 _ ⟨⟨q2, by omega⟩, q3⟩ (by simp only [St.ht]; omega) (by simp only [St.ct]; rw [Nat.pow_succ]; have := one8 d; omega) v3 (by omega) (by omega) (by omega) (by walk_at "keep")
      · have f1 := v.spr
        have f2 := v.esc
        have f3 := v.efu
        have f4 := v.esp
        refine expr_ok 2 n s dr sc fu _ _ _ _ _ (by omega) rfl (by assumption) (by walk_at "get") (by walk_at "get") v4 v5 v6 v7 fun e h2 f2 t2 sp2 l2 k2 => ?_
        walk_at "go"
        exact w (.out e) xs ys _ ⟨f2, by omega⟩ (by simp only [St.ht]; omega) (by simp only [St.ct]; exact one8 _) (v.mono2 v.big sp2 (by walk_at "get") (by walk_at "get") (by walk_at "get")) (Nat.le_refl _) (Nat.le_refl _) (by omega) (by walk_at "keep")
    · walk_at "br"
      · obtain ⟨d, rfl⟩ : ∃ d', d = d' + 1 := ⟨d - 1, by omega⟩
        have f1 := v.spr
        have f2 := v.esc
        have f3 := v.efu
        have f4 := v.esp
        refine expr_ok 2 n s dr sc fu _ _ _ _ _ (by omega) rfl f1 f2 f3 v4 v5 v6 v7 fun e h2 q2 t2 sp2 l2 k2 => ?_
        replace v : Env h2 s dr sp sc fu xs ys := v.mono2 v.big sp2 (by walk_at "get") (by walk_at "get") (by walk_at "get")
        walk_at "go"
        refine ih d rfl n s dr sp sc fu xs ys _ _ _ _ X (by omega) (by omega) v fun b ys2 h3 q3 t3 c3 v3 ly3 l3 k3 => ?_
        walk_at "go"
        refine draw1 v3.spr (by decide) (by omega) fun a h4 a0 a1 sp4 l4 k4 => ?_
        have g3 := v3.esp
        have g4 := v3.esc
        have g5 := v3.efu
        replace v3 : Env h4 s dr sp sc fu xs ys2 := v3.mono2 v3.big sp4 (by walk_at "get") (by walk_at "get") (by walk_at "get")
        walk_at "go"
        walk_at "br"
        · refine ih d rfl n s dr sp sc fu xs ys2 _ _ _ _ X (by omega) (by omega) v3 fun c ys5 h5 q5 t5 c5 v5 ly5 l5 k5 => ?_
          walk_at "go"
          exact w (.ifs e b c) xs ys5 _ ⟨⟨q2, by omega⟩, q3, q5⟩ (by simp only [St.ht]; omega) (by simp only [St.ct]; rw [Nat.pow_succ]; have := one8 d; omega) v5 (by omega) (by omega) (by omega) (by walk_at "keep")
        · exact w (.ifs e b []) xs ys2 _ ⟨⟨q2, by omega⟩, q3, trivial⟩ (by simp only [St.ht, St.bht]; omega) (by simp only [St.ct, St.bct]; rw [Nat.pow_succ]; have := one8 d; omega) v3 (by omega) (by omega) (by omega) (by walk_at "keep")
      · have f1 := v.spr
        have f2 := v.esc
        have f3 := v.efu
        have f4 := v.esp
        refine expr_ok 2 n s dr sc fu _ _ _ _ _ (by omega) rfl (by assumption) (by walk_at "get") (by walk_at "get") v4 v5 v6 v7 fun e h2 f2 t2 sp2 l2 k2 => ?_
        walk_at "go"
        exact w (.out e) xs ys _ ⟨f2, by omega⟩ (by simp only [St.ht]; omega) (by simp only [St.ct]; exact one8 _) (v.mono2 v.big sp2 (by walk_at "get") (by walk_at "get") (by walk_at "get")) (Nat.le_refl _) (Nat.le_refl _) (by omega) (by walk_at "keep")
    · walk_at "br"
      · have f1 := v.spr
        have f2 := v.esc
        have f3 := v.efu
        have f4 := v.esp
        refine expr_ok 3 n s dr sc fu _ _ _ _ _ (by omega) rfl f1 f2 f3 v4 v5 v6 v7 fun e h2 q2 t2 sp2 l2 k2 => ?_
        walk_at "go"
        exact w (.ret e) xs ys _ ⟨q2, by omega⟩ (by simp only [St.ht]; omega) (by simp only [St.ct]; exact one8 _) (v.mono2 v.big sp2 (by walk_at "get") (by walk_at "get") (by walk_at "get")) (Nat.le_refl _) (Nat.le_refl _) (by omega) (by walk_at "keep")
      · have f1 := v.spr
        have f2 := v.esc
        have f3 := v.efu
        have f4 := v.esp
        refine expr_ok 2 n s dr sc fu _ _ _ _ _ (by omega) rfl (by assumption) (by walk_at "get") (by walk_at "get") v4 v5 v6 v7 fun e h2 f2 t2 sp2 l2 k2 => ?_
        walk_at "go"
        exact w (.out e) xs ys _ ⟨f2, by omega⟩ (by simp only [St.ht]; omega) (by simp only [St.ct]; exact one8 _) (v.mono2 v.big sp2 (by walk_at "get") (by walk_at "get") (by walk_at "get")) (Nat.le_refl _) (Nat.le_refl _) (by omega) (by walk_at "keep")
    · have f1 := v.spr
      have f2 := v.esc
      have f3 := v.efu
      have f4 := v.esp
      refine expr_ok 2 n s dr sc fu _ _ _ _ _ (by omega) rfl (by assumption) (by walk_at "get") (by walk_at "get") v4 v5 v6 v7 fun e h2 f2 t2 sp2 l2 k2 => ?_
      walk_at "go"
      exact w (.out e) xs ys _ ⟨f2, by omega⟩ (by simp only [St.ht]; omega) (by simp only [St.ct]; exact one8 _) (v.mono2 v.big sp2 (by walk_at "get") (by walk_at "get") (by walk_at "get")) (Nat.le_refl _) (Nat.le_refl _) (by omega) (by walk_at "keep")

end Lw

set_option Elab.async false
set_option linter.all false
set_option maxRecDepth 100000
set_option maxHeartbeats 1000000
namespace Lw
open PySem PySem.Spec PyProof.Rows L2 Mi
local macro_rules | `(tactic| walk_at "mem") => `(tactic| first | exact fun _ z => absurd z List.not_mem_nil | exact List.not_mem_nil | (intro i hi; simp only [List.mem_cons, List.not_mem_nil, or_false, false_or] at hi ⊢; omega) | (simp only [List.mem_cons, List.not_mem_nil, or_false, false_or, not_or]; omega))
local macro_rules | `(tactic| walk_at "get") => `(tactic| first | assumption | (apply Keep.get; assumption; walk_at "get"; walk_at "mem"))
local macro_rules | `(tactic| walk_at "keep") => `(tactic| first | assumption | exact Keep.refl | (apply Keep.step; assumption; walk_at "keep"; walk_at "mem"))
local macro_rules | `(tactic| walk_at "one") => `(tactic| (conv => whnf) <;> first
  | (refine rdO_i (by walk_at "get") ?_)
  | (refine itm_i (by first | rfl | assumption | exact getAt_end _ _) ?_)
  | (refine new_i ?_; intro p h' e1 l1 l2 l3 k)
  | (refine put_i (by walk_at "get") ?_; intro h' e1 l1 k)
  | (refine iLst_i (by first | rfl | exact intsOf_map _) ?_)
  | (refine br_t (by rfl) ?_)
  | (refine br_f (by rfl) ?_)
  | (refine chk_i (by first | rfl | assumption | exact mulOk_r (by decide) | exact mulOk_l (by decide) | exact small_lt (by simp only [List.length_map, List.length_cons, List.length_append, List.length_take, List.length_nil, List.length_replicate, List.length_dropLast]; omega) | exact lenOk_le (by simp only [List.length_map, List.length_cons, List.length_append, List.length_take, List.length_nil, List.length_replicate]; omega) | (simp; omega)) ?_))
local macro_rules | `(tactic| walk_at "go") => `(tactic| (repeat walk_at "one"); try (conv => whnf))
local macro_rules | `(tactic| walk_at "br") => `(tactic| (refine br_i (fun hc => ?_) (fun hc => ?_) <;> simp only [Bool.not_eq_true', Bool.not_eq_false', beq_iff_eq, beq_eq_false_iff_ne, ne_eq, decide_eq_true_eq, decide_eq_false_iff_not, bne_iff_ne, bne_eq_false_iff_eq] at hc) <;> first | (exfalso; omega) | walk_at "go")

theorem blk_ok : ∀ d, BlkSpec d
  | 0 => blk_of 0 (stm_of 0 fun d' e => absurd e (by omega))
  | d + 1 => blk_of (d + 1) (stm_of (d + 1) fun d' e => by cases e; exact blk_ok d)
def St.bks : St → List (List St)
  | .hold b => [b]
  | .whl _ b => [b]
  | .ifs _ b c => [b, c]
  | _ => []
theorem ob_ok {n : Nat} {t : St} {h : Hh} {Q : Kd} {X : Ex} (hn : 1 ≤ n) (w : ∀ p h', h'[p]? = some (.lst (t.bks.map fun b => D.tup (St.ds b))) → h.length ≤ p → p < h'.length → h.length ≤ h'.length → Keep [] h h' → Q (.ref p) h') :
    rn n i_own_blocks [t.d] h Q X := by
  cases n with
  | zero => omega
  | succ n =>
    refine u_own_blocks ?_
    cases t
    all_goals
      walk_at "go"
      rename_i p h1 e1 l1 l2 l3 k1
      exact w p h1 e1 l1 l2 l3 k1
theorem intsOf_of {ys : List D} {ms : List Int} (e : ys = ms.map D.int) : intsOf ys = some ms := by rw [e]; exact intsOf_map _
theorem bneed_pos : ∀ b : List St, 0 ≤ St.bneed b
  | [] => by simp [St.bneed]
  | s :: b => by
    have := bneed_pos b
    simp only [St.bneed]
    omega
theorem bneed_fold : ∀ (b : List St) (z : Int), 0 ≤ z → (b.map St.need).foldl max z = max z (St.bneed b)
  | [], z, hz => by simp only [List.map_nil, List.foldl_nil, St.bneed]; omega
  | s :: b, z, hz => by
    have := bneed_fold b (max z s.need) (by omega)
    simp only [List.map_cons, List.foldl_cons, St.bneed, this]
    omega
theorem args1 {n : Nat} {as : List Ep} {k : Int} {h : Hh} {Q : Kd} {X : Ex} (hl : as.length ≤ 3) (hf : Ep.fits as) (hn : Ep.hts as + 1 ≤ n)
    (w : ∀ h', h.length ≤ h'.length → Keep [] h h' → Q (.int ((Ep.argsL as k).foldl max 0)) h') : rn n i_args_need [.tup (Ep.ds as), .int k] h Q X := by
  cases n with
  | zero => omega
  | succ n => exact args_ok hl (fun i a k h Q e q => need_ok n a n k h Q _ (by have := hts_at as i a e; omega) (Nat.le_refl _) (fits_at as i a e hf) q) w
theorem len_bct : ∀ b : List St, b.length ≤ St.bct b
  | [] => Nat.le_refl _
  | s :: b => by
    have := len_bct b
    have : 1 ≤ s.ct := by cases s <;> simp [St.ct]
    simp only [List.length_cons, St.bct]
    omega
theorem bht_mem : ∀ {b b1 b2 : List St} {t : St}, b = b1 ++ t :: b2 → t.ht + 1 ≤ St.bht b ∧ (St.fits b → t.fit) ∧ t.ct ≤ St.bct b
  | _, [], b2, t, rfl => ⟨by simp only [List.nil_append, St.bht]; omega, fun f => f.1, by simp only [List.nil_append, St.bct]; omega⟩
  | _, a :: b1, b2, t, rfl => by
    obtain ⟨h1, h2, h3⟩ := bht_mem (b := b1 ++ t :: b2) rfl
    exact ⟨by simp only [List.cons_append, St.bht]; omega, fun f => h2 f.2, by simp only [List.cons_append, St.bct]; omega⟩
theorem sn_ok : ∀ (m : Nat),
    (∀ (t : St) (n : Nat) (h : Hh) (Q : Kd) (X : Ex), t.ht + 10 ≤ n → n ≤ m → t.fit ∧ t.ct < 100000 → (∀ h', h.length ≤ h'.length → Keep [] h h' → Q (.int t.need) h') → rn n i_statement_need [t.d] h Q X) ∧
    (∀ (b : List St) (n : Nat) (h : Hh) (Q : Kd) (X : Ex), St.bht b + 10 ≤ n → n ≤ m → St.fits b ∧ St.bct b < 100000 → (∀ h', h.length ≤ h'.length → Keep [] h h' → Q (.int (St.bneed b)) h') → rn n i_block_need [.tup (St.ds b)] h Q X)
  | 0 => ⟨fun t n h Q X h1 h2 => absurd h1 (by omega), fun b n h Q X h1 h2 => absurd h1 (by omega)⟩
  | m + 1 => by
    have ih := sn_ok m
    refine ⟨fun t n h Q X hm hn hf w => ?_, fun b n h Q X hm hn hf w => ?_⟩
    · obtain ⟨n, rfl⟩ : ∃ n', n = n' + 1 := ⟨n - 1, by omega⟩
      refine u_statement_need ?_
      cases t with
        | var x e =>
          have fin : ∀ (z : Int) h', z = (St.var x e).need → h.length ≤ h'.length → Keep [] h h' → Q (.int z) h' := fun z h' ez l k => ez ▸ w h' l k
          simp only [St.ht] at hm
          have bp := bneed_pos
          walk_at "go"
          refine ob_ok (t := St.var x e) (by omega) fun p h1 e1 g1 g2 g3 k1 => ?_
          walk_at "go"
          rename_i q h2 e2 g4 g5 g6 k2
          refine compL_i (n := p) ((St.var x e).bks.map fun b => D.tup (St.ds b)) (fun r acc h' => ∃ b1 b2, (St.var x e).bks = b1 ++ b2 ∧ r = b2.map (fun b => D.tup (St.ds b)) ∧ acc = (b1.map St.bneed).map .int ∧ h'[p]? = some (.lst ((St.var x e).bks.map fun b => D.tup (St.ds b))) ∧ h2.length ≤ h'.length ∧ Keep [q] h2 h') (fun r a h' z => by obtain ⟨_, _, _, _, _, z, _⟩ := z; exact z) ?_ ?_ _ _ _ _ _ rfl (fuel_lt (by simp [St.bks])) e2 ⟨[], _, rfl, rfl, rfl, by walk_at "get", Nat.le_refl _, Keep.refl⟩
          · rintro x r acc h3 K e3 ⟨b1, b2, eb, er, rfl, e4, l4, k4⟩ hK
            cases b2 with
            | nil => cases er
            | cons b b2 => exact absurd eb (by simp [St.bks])
          · rintro acc h3 e3 ⟨b1, b2, eb, er, rfl, e4, l4, k4⟩
            cases b2 with
            | cons b b2 => cases er
            | nil =>
              rw [List.append_nil] at eb
              subst eb
              simp only [St.bks] at e3
              walk_at "go"
              refine need_ok n e n 0 _ _ _ (by have := hf.1.2; omega) (Nat.le_refl _) hf.1.1 fun h6 l6 k6 => ?_
              walk_at "go"
              have := need_pos e 0 (by omega)
              exact fin _ _ (by simp only [maxI, St.need]; omega) (by omega) (by walk_at "keep")
        | set x e =>
          have fin : ∀ (z : Int) h', z = (St.set x e).need → h.length ≤ h'.length → Keep [] h h' → Q (.int z) h' := fun z h' ez l k => ez ▸ w h' l k
          simp only [St.ht] at hm
          have bp := bneed_pos
          walk_at "go"
          refine ob_ok (t := St.set x e) (by omega) fun p h1 e1 g1 g2 g3 k1 => ?_
          walk_at "go"
          rename_i q h2 e2 g4 g5 g6 k2
          refine compL_i (n := p) ((St.set x e).bks.map fun b => D.tup (St.ds b)) (fun r acc h' => ∃ b1 b2, (St.set x e).bks = b1 ++ b2 ∧ r = b2.map (fun b => D.tup (St.ds b)) ∧ acc = (b1.map St.bneed).map .int ∧ h'[p]? = some (.lst ((St.set x e).bks.map fun b => D.tup (St.ds b))) ∧ h2.length ≤ h'.length ∧ Keep [q] h2 h') (fun r a h' z => by obtain ⟨_, _, _, _, _, z, _⟩ := z; exact z) ?_ ?_ _ _ _ _ _ rfl (fuel_lt (by simp [St.bks])) e2 ⟨[], _, rfl, rfl, rfl, by walk_at "get", Nat.le_refl _, Keep.refl⟩
          · rintro x r acc h3 K e3 ⟨b1, b2, eb, er, rfl, e4, l4, k4⟩ hK
            cases b2 with
            | nil => cases er
            | cons b b2 => exact absurd eb (by simp [St.bks])
          · rintro acc h3 e3 ⟨b1, b2, eb, er, rfl, e4, l4, k4⟩
            cases b2 with
            | cons b b2 => cases er
            | nil =>
              rw [List.append_nil] at eb
              subst eb
              simp only [St.bks] at e3
              walk_at "go"
              refine need_ok n e n 0 _ _ _ (by have := hf.1.2; omega) (Nat.le_refl _) hf.1.1 fun h6 l6 k6 => ?_
              walk_at "go"
              have := need_pos e 0 (by omega)
              exact fin _ _ (by simp only [maxI, St.need]; omega) (by omega) (by walk_at "keep")
        | call x as =>
          have fin : ∀ (z : Int) h', z = (St.call x as).need → h.length ≤ h'.length → Keep [] h h' → Q (.int z) h' := fun z h' ez l k => ez ▸ w h' l k
          simp only [St.ht] at hm
          have bp := bneed_pos
          walk_at "go"
          refine ob_ok (t := St.call x as) (by omega) fun p h1 e1 g1 g2 g3 k1 => ?_
          walk_at "go"
          rename_i q h2 e2 g4 g5 g6 k2
          refine compL_i (n := p) ((St.call x as).bks.map fun b => D.tup (St.ds b)) (fun r acc h' => ∃ b1 b2, (St.call x as).bks = b1 ++ b2 ∧ r = b2.map (fun b => D.tup (St.ds b)) ∧ acc = (b1.map St.bneed).map .int ∧ h'[p]? = some (.lst ((St.call x as).bks.map fun b => D.tup (St.ds b))) ∧ h2.length ≤ h'.length ∧ Keep [q] h2 h') (fun r a h' z => by obtain ⟨_, _, _, _, _, z, _⟩ := z; exact z) ?_ ?_ _ _ _ _ _ rfl (fuel_lt (by simp [St.bks])) e2 ⟨[], _, rfl, rfl, rfl, by walk_at "get", Nat.le_refl _, Keep.refl⟩
          · rintro x r acc h3 K e3 ⟨b1, b2, eb, er, rfl, e4, l4, k4⟩ hK
            cases b2 with
            | nil => cases er
            | cons b b2 => exact absurd eb (by simp [St.bks])
          · rintro acc h3 e3 ⟨b1, b2, eb, er, rfl, e4, l4, k4⟩
            cases b2 with
            | cons b b2 => cases er
            | nil =>
              rw [List.append_nil] at eb
              subst eb
              simp only [St.bks] at e3
              walk_at "go"
              refine args1 hf.1.1.1 hf.1.1.2 (by have := hf.1.2; simp only [Ep.ht] at this; omega) fun h6 l6 k6 => ?_
              walk_at "go"
              have h9 : (Ep.call x as).need 0 = (Ep.argsL as 0).foldl max 0 := by simp only [Ep.need]
              have := need_pos (Ep.call x as) 0 (by omega)
              exact fin _ _ (by simp only [maxI, St.need]; omega) (by omega) (by walk_at "keep")
        | hold b0 =>
          have fin : ∀ (z : Int) h', z = (St.hold b0).need → h.length ≤ h'.length → Keep [] h h' → Q (.int z) h' := fun z h' ez l k => ez ▸ w h' l k
          simp only [St.ht] at hm
          have bp := bneed_pos
          walk_at "go"
          refine ob_ok (t := St.hold b0) (by omega) fun p h1 e1 g1 g2 g3 k1 => ?_
          walk_at "go"
          rename_i q h2 e2 g4 g5 g6 k2
          refine compL_i (n := p) ((St.hold b0).bks.map fun b => D.tup (St.ds b)) (fun r acc h' => ∃ b1 b2, (St.hold b0).bks = b1 ++ b2 ∧ r = b2.map (fun b => D.tup (St.ds b)) ∧ acc = (b1.map St.bneed).map .int ∧ h'[p]? = some (.lst ((St.hold b0).bks.map fun b => D.tup (St.ds b))) ∧ h2.length ≤ h'.length ∧ Keep [q] h2 h') (fun r a h' z => by obtain ⟨_, _, _, _, _, z, _⟩ := z; exact z) ?_ ?_ _ _ _ _ _ rfl (fuel_lt (by simp [St.bks])) e2 ⟨[], _, rfl, rfl, rfl, by walk_at "get", Nat.le_refl _, Keep.refl⟩
          · rintro x r acc h3 K e3 ⟨b1, b2, eb, er, rfl, e4, l4, k4⟩ hK
            cases b2 with
            | nil => cases er
            | cons b b2 =>
              obtain ⟨rfl, rfl⟩ := (List.cons.injEq ..).mp er
              have hb : b ∈ (St.hold b0).bks := by rw [eb]; simp
              have hll := congrArg List.length eb
              simp only [List.length_append, List.length_cons, St.bks, List.length_nil] at hll
              simp only [St.bks, List.mem_cons, List.not_mem_nil, or_false] at hb
              walk_at "go"
              refine ih.2 b n _ _ X ?_ (by omega) ?_ fun h5 l5 k5 => ?_
              · subst hb; omega
              · subst hb; exact ⟨hf.1, by have := hf.2; simp only [St.ct] at this; omega⟩
              have e5 : h5[q]? = some (.lst ((b1.map St.bneed).map .int)) := by walk_at "get"
              refine rdL_i e5 (chk_i (small_lt (by simp only [List.length_map]; omega)) (put_i e5 fun h7 e7 l7 k7 => hK _ _ e7 ⟨b1 ++ [b], b2, by rw [eb]; simp, rfl, by simp, ?_, by omega, by walk_at "keep"⟩))
              walk_at "get"
          · rintro acc h3 e3 ⟨b1, b2, eb, er, rfl, e4, l4, k4⟩
            cases b2 with
            | cons b b2 => cases er
            | nil =>
              rw [List.append_nil] at eb
              subst eb
              simp only [St.bks] at e3
              walk_at "go"
              have := bp b0
              exact fin _ _ (by simp only [maxI, St.need]; omega) (by omega) (by walk_at "keep")
        | whl e b0 =>
          have fin : ∀ (z : Int) h', z = (St.whl e b0).need → h.length ≤ h'.length → Keep [] h h' → Q (.int z) h' := fun z h' ez l k => ez ▸ w h' l k
          simp only [St.ht] at hm
          have bp := bneed_pos
          walk_at "go"
          refine ob_ok (t := St.whl e b0) (by omega) fun p h1 e1 g1 g2 g3 k1 => ?_
          walk_at "go"
          rename_i q h2 e2 g4 g5 g6 k2
          refine compL_i (n := p) ((St.whl e b0).bks.map fun b => D.tup (St.ds b)) (fun r acc h' => ∃ b1 b2, (St.whl e b0).bks = b1 ++ b2 ∧ r = b2.map (fun b => D.tup (St.ds b)) ∧ acc = (b1.map St.bneed).map .int ∧ h'[p]? = some (.lst ((St.whl e b0).bks.map fun b => D.tup (St.ds b))) ∧ h2.length ≤ h'.length ∧ Keep [q] h2 h') (fun r a h' z => by obtain ⟨_, _, _, _, _, z, _⟩ := z; exact z) ?_ ?_ _ _ _ _ _ rfl (fuel_lt (by simp [St.bks])) e2 ⟨[], _, rfl, rfl, rfl, by walk_at "get", Nat.le_refl _, Keep.refl⟩
          · rintro x r acc h3 K e3 ⟨b1, b2, eb, er, rfl, e4, l4, k4⟩ hK
            cases b2 with
            | nil => cases er
            | cons b b2 =>
              obtain ⟨rfl, rfl⟩ := (List.cons.injEq ..).mp er
              have hb : b ∈ (St.whl e b0).bks := by rw [eb]; simp
              have hll := congrArg List.length eb
              simp only [List.length_append, List.length_cons, St.bks, List.length_nil] at hll
              simp only [St.bks, List.mem_cons, List.not_mem_nil, or_false] at hb
              walk_at "go"
              refine ih.2 b n _ _ X ?_ (by omega) ?_ fun h5 l5 k5 => ?_
              · subst hb; omega
              · subst hb; exact ⟨hf.1.2, by have := hf.2; simp only [St.ct] at this; omega⟩
              have e5 : h5[q]? = some (.lst ((b1.map St.bneed).map .int)) := by walk_at "get"
              refine rdL_i e5 (chk_i (small_lt (by simp only [List.length_map]; omega)) (put_i e5 fun h7 e7 l7 k7 => hK _ _ e7 ⟨b1 ++ [b], b2, by rw [eb]; simp, rfl, by simp, ?_, by omega, by walk_at "keep"⟩))
              walk_at "get"
          · rintro acc h3 e3 ⟨b1, b2, eb, er, rfl, e4, l4, k4⟩
            cases b2 with
            | cons b b2 => cases er
            | nil =>
              rw [List.append_nil] at eb
              subst eb
              simp only [St.bks] at e3
              walk_at "go"
              refine need_ok n e n 0 _ _ _ (by have := hf.1.1.2; omega) (Nat.le_refl _) hf.1.1.1 fun h6 l6 k6 => ?_
              walk_at "go"
              have := bp b0
              have := need_pos e 0 (by omega)
              exact fin _ _ (by simp only [maxI, St.need]; omega) (by omega) (by walk_at "keep")
        | ifs e b0 c0 =>
          have fin : ∀ (z : Int) h', z = (St.ifs e b0 c0).need → h.length ≤ h'.length → Keep [] h h' → Q (.int z) h' := fun z h' ez l k => ez ▸ w h' l k
          simp only [St.ht] at hm
          have bp := bneed_pos
          walk_at "go"
          refine ob_ok (t := St.ifs e b0 c0) (by omega) fun p h1 e1 g1 g2 g3 k1 => ?_
          walk_at "go"
          rename_i q h2 e2 g4 g5 g6 k2
          refine compL_i (n := p) ((St.ifs e b0 c0).bks.map fun b => D.tup (St.ds b)) (fun r acc h' => ∃ b1 b2, (St.ifs e b0 c0).bks = b1 ++ b2 ∧ r = b2.map (fun b => D.tup (St.ds b)) ∧ acc = (b1.map St.bneed).map .int ∧ h'[p]? = some (.lst ((St.ifs e b0 c0).bks.map fun b => D.tup (St.ds b))) ∧ h2.length ≤ h'.length ∧ Keep [q] h2 h') (fun r a h' z => by obtain ⟨_, _, _, _, _, z, _⟩ := z; exact z) ?_ ?_ _ _ _ _ _ rfl (fuel_lt (by simp [St.bks])) e2 ⟨[], _, rfl, rfl, rfl, by walk_at "get", Nat.le_refl _, Keep.refl⟩
          · rintro x r acc h3 K e3 ⟨b1, b2, eb, er, rfl, e4, l4, k4⟩ hK
            cases b2 with
            | nil => cases er
            | cons b b2 =>
              obtain ⟨rfl, rfl⟩ := (List.cons.injEq ..).mp er
              have hb : b ∈ (St.ifs e b0 c0).bks := by rw [eb]; simp
              have hll := congrArg List.length eb
              simp only [List.length_append, List.length_cons, St.bks, List.length_nil] at hll
              simp only [St.bks, List.mem_cons, List.not_mem_nil, or_false] at hb
              walk_at "go"
              refine ih.2 b n _ _ X ?_ (by omega) ?_ fun h5 l5 k5 => ?_
              · rcases hb with rfl | rfl <;> omega
              · rcases hb with rfl | rfl; exact ⟨hf.1.2.1, by have := hf.2; simp only [St.ct] at this; omega⟩; exact ⟨hf.1.2.2, by have := hf.2; simp only [St.ct] at this; omega⟩
              have e5 : h5[q]? = some (.lst ((b1.map St.bneed).map .int)) := by walk_at "get"
              refine rdL_i e5 (chk_i (small_lt (by simp only [List.length_map]; omega)) (put_i e5 fun h7 e7 l7 k7 => hK _ _ e7 ⟨b1 ++ [b], b2, by rw [eb]; simp, rfl, by simp, ?_, by omega, by walk_at "keep"⟩))
              walk_at "get"
          · rintro acc h3 e3 ⟨b1, b2, eb, er, rfl, e4, l4, k4⟩
            cases b2 with
            | cons b b2 => cases er
            | nil =>
              rw [List.append_nil] at eb
              subst eb
              simp only [St.bks] at e3
              walk_at "go"
              refine need_ok n e n 0 _ _ _ (by have := hf.1.1.2; omega) (Nat.le_refl _) hf.1.1.1 fun h6 l6 k6 => ?_
              walk_at "go"
              have := bp b0
              have := bp c0
              have := need_pos e 0 (by omega)
              exact fin _ _ (by simp only [maxI, St.need]; omega) (by omega) (by walk_at "keep")
        | ret e =>
          have fin : ∀ (z : Int) h', z = (St.ret e).need → h.length ≤ h'.length → Keep [] h h' → Q (.int z) h' := fun z h' ez l k => ez ▸ w h' l k
          simp only [St.ht] at hm
          have bp := bneed_pos
          walk_at "go"
          refine ob_ok (t := St.ret e) (by omega) fun p h1 e1 g1 g2 g3 k1 => ?_
          walk_at "go"
          rename_i q h2 e2 g4 g5 g6 k2
          refine compL_i (n := p) ((St.ret e).bks.map fun b => D.tup (St.ds b)) (fun r acc h' => ∃ b1 b2, (St.ret e).bks = b1 ++ b2 ∧ r = b2.map (fun b => D.tup (St.ds b)) ∧ acc = (b1.map St.bneed).map .int ∧ h'[p]? = some (.lst ((St.ret e).bks.map fun b => D.tup (St.ds b))) ∧ h2.length ≤ h'.length ∧ Keep [q] h2 h') (fun r a h' z => by obtain ⟨_, _, _, _, _, z, _⟩ := z; exact z) ?_ ?_ _ _ _ _ _ rfl (fuel_lt (by simp [St.bks])) e2 ⟨[], _, rfl, rfl, rfl, by walk_at "get", Nat.le_refl _, Keep.refl⟩
          · rintro x r acc h3 K e3 ⟨b1, b2, eb, er, rfl, e4, l4, k4⟩ hK
            cases b2 with
            | nil => cases er
            | cons b b2 => exact absurd eb (by simp [St.bks])
          · rintro acc h3 e3 ⟨b1, b2, eb, er, rfl, e4, l4, k4⟩
            cases b2 with
            | cons b b2 => cases er
            | nil =>
              rw [List.append_nil] at eb
              subst eb
              simp only [St.bks] at e3
              walk_at "go"
              refine need_ok n e n 0 _ _ _ (by have := hf.1.2; omega) (Nat.le_refl _) hf.1.1 fun h6 l6 k6 => ?_
              walk_at "go"
              have := need_pos e 0 (by omega)
              exact fin _ _ (by simp only [maxI, St.need]; omega) (by omega) (by walk_at "keep")
        | out e =>
          have fin : ∀ (z : Int) h', z = (St.out e).need → h.length ≤ h'.length → Keep [] h h' → Q (.int z) h' := fun z h' ez l k => ez ▸ w h' l k
          simp only [St.ht] at hm
          have bp := bneed_pos
          walk_at "go"
          refine ob_ok (t := St.out e) (by omega) fun p h1 e1 g1 g2 g3 k1 => ?_
          walk_at "go"
          rename_i q h2 e2 g4 g5 g6 k2
          refine compL_i (n := p) ((St.out e).bks.map fun b => D.tup (St.ds b)) (fun r acc h' => ∃ b1 b2, (St.out e).bks = b1 ++ b2 ∧ r = b2.map (fun b => D.tup (St.ds b)) ∧ acc = (b1.map St.bneed).map .int ∧ h'[p]? = some (.lst ((St.out e).bks.map fun b => D.tup (St.ds b))) ∧ h2.length ≤ h'.length ∧ Keep [q] h2 h') (fun r a h' z => by obtain ⟨_, _, _, _, _, z, _⟩ := z; exact z) ?_ ?_ _ _ _ _ _ rfl (fuel_lt (by simp [St.bks])) e2 ⟨[], _, rfl, rfl, rfl, by walk_at "get", Nat.le_refl _, Keep.refl⟩
          · rintro x r acc h3 K e3 ⟨b1, b2, eb, er, rfl, e4, l4, k4⟩ hK
            cases b2 with
            | nil => cases er
            | cons b b2 => exact absurd eb (by simp [St.bks])
          · rintro acc h3 e3 ⟨b1, b2, eb, er, rfl, e4, l4, k4⟩
            cases b2 with
            | cons b b2 => cases er
            | nil =>
              rw [List.append_nil] at eb
              subst eb
              simp only [St.bks] at e3
              walk_at "go"
              refine need_ok n e n 0 _ _ _ (by have := hf.1.2; omega) (Nat.le_refl _) hf.1.1 fun h6 l6 k6 => ?_
              walk_at "go"
              have := need_pos e 0 (by omega)
              exact fin _ _ (by simp only [maxI, St.need]; omega) (by omega) (by walk_at "keep")

    · obtain ⟨n, rfl⟩ : ∃ n', n = n' + 1 := ⟨n - 1, by omega⟩
      refine u_block_need ?_
      walk_at "go"
      rename_i p h1 e1 g1 g2 g3 k1 q h2 e2 g4 g5 g6 k2
      refine comp_i (I := fun r acc h' => ∃ b1 b2, b = b1 ++ b2 ∧ r = St.ds b2 ∧ acc = (b1.map St.need).map .int ∧ h2.length ≤ h'.length ∧ Keep [q] h2 h') ?_ ?_ _ _ _ e2 ⟨[], b, rfl, rfl, rfl, Nat.le_refl _, Keep.refl⟩
      · rintro x r acc h3 K e3 ⟨b1, b2, eb, er, rfl, l4, k4⟩ hK
        cases b2 with
        | nil => cases er
        | cons t b2 =>
          obtain ⟨rfl, rfl⟩ := (List.cons.injEq ..).mp er
          have hb := bht_mem eb
          have hll := congrArg List.length eb
          have hbl := len_bct b
          simp only [List.length_append, List.length_cons] at hll
          walk_at "go"
          refine ih.1 t n _ _ X (by omega) (by omega) ⟨(hb.2.1 hf.1), by omega⟩ fun h5 l5 k5 => ?_
          have e5 : h5[q]? = some (.lst ((b1.map St.need).map .int)) := by walk_at "get"
          refine rdL_i e5 (chk_i (small_lt (by simp only [List.length_map]; omega)) (put_i e5 fun h7 e7 l7 k7 => hK _ _ e7 ⟨b1 ++ [t], b2, by rw [eb]; simp, rfl, by simp, by omega, by walk_at "keep"⟩))
      · rintro acc h3 e3 ⟨b1, b2, eb, er, rfl, l4, k4⟩
        cases b2 with
        | cons b b2 => cases er
        | nil =>
          rw [List.append_nil] at eb
          subst eb
          have hbl := len_bct b
          walk_at "go"
          refine iLst_i (intsOf_c _ _) ?_
          walk_at "go"
          have := bneed_pos b
          rw [maxI_max, bneed_fold _ _ (Int.le_refl _), show max 0 (St.bneed b) = St.bneed b by omega]
          exact w _ (by omega) (by walk_at "keep")

end Lw

set_option Elab.async false
set_option linter.all false
set_option maxRecDepth 100000
set_option maxHeartbeats 1000000
namespace Lw
open PySem PySem.Spec PyProof.Rows L2 Mi
local macro_rules | `(tactic| walk_at "mem") => `(tactic| first | exact fun _ z => absurd z List.not_mem_nil | exact List.not_mem_nil | (intro i hi; simp only [List.mem_cons, List.not_mem_nil, or_false, false_or] at hi ⊢; omega) | (simp only [List.mem_cons, List.not_mem_nil, or_false, false_or, not_or]; omega))
local macro_rules | `(tactic| walk_at "get") => `(tactic| first | assumption | (apply Keep.get; assumption; walk_at "get"; walk_at "mem"))
local macro_rules | `(tactic| walk_at "keep") => `(tactic| first | assumption | exact Keep.refl | (apply Keep.step; assumption; walk_at "keep"; walk_at "mem"))
local macro_rules | `(tactic| walk_at "one") => `(tactic| (conv => whnf) <;> first
  | (refine rdO_i (by walk_at "get") ?_)
  | (refine itm_i (by first | rfl | assumption | exact getAt_end _ _) ?_)
  | (refine new_i ?_; intro p h' e1 l1 l2 l3 k)
  | (refine put_i (by walk_at "get") ?_; intro h' e1 l1 k)
  | (refine iLst_i (by first | rfl | exact intsOf_map _) ?_)
  | (refine br_t (by rfl) ?_)
  | (refine br_f (by rfl) ?_)
  | (refine chk_i (by first | rfl | assumption | exact mulOk_r (by decide) | exact mulOk_l (by decide) | exact small_lt (by simp only [List.length_map, List.length_cons, List.length_append, List.length_take, List.length_nil, List.length_replicate, List.length_dropLast]; omega) | exact lenOk_le (by simp only [List.length_map, List.length_cons, List.length_append, List.length_take, List.length_nil, List.length_replicate, List.length_dropLast]; omega) | exact lenOk_le (by omega) | exact small_lt (by omega) | (simp; omega)) ?_))
local macro_rules | `(tactic| walk_at "go") => `(tactic| (repeat walk_at "one"); try (conv => whnf))
local macro_rules | `(tactic| walk_at "br") => `(tactic| (refine br_i (fun hc => ?_) (fun hc => ?_) <;> simp only [Bool.not_eq_true', Bool.not_eq_false', beq_iff_eq, beq_eq_false_iff_ne, ne_eq, decide_eq_true_eq, decide_eq_false_iff_not, bne_iff_ne, bne_eq_false_iff_eq] at hc) <;> first | (exfalso; omega) | walk_at "go")

theorem bneed_app : ∀ a b : List St, St.bneed (a ++ b) = max (St.bneed a) (St.bneed b)
  | [], b => by
    have := bneed_pos b
    simp only [List.nil_append, St.bneed]
    omega
  | s :: a, b => by
    have := bneed_app a b
    simp only [List.cons_append, St.bneed]
    omega
theorem sfits_l : ∀ {a b : List St}, St.fits (a ++ b) → St.fits a ∧ St.fits b
  | [], _, f => ⟨trivial, f⟩
  | s :: a, b, f => by
    have := sfits_l (a := a) (b := b) f.2
    exact ⟨⟨f.1, this.1⟩, this.2⟩
theorem sz7 {e : Ep} (f : e.fit ∧ e.ht ≤ 7) : e.sz < 16777215 := by
  have h1 := sz_le e f.1
  have h2 : 4 ^ e.ht ≤ 4 ^ 7 := Nat.pow_le_pow_right (by omega) f.2
  have h3 : 4 ^ 7 = 16384 := by decide
  omega
theorem whole_ok {n : Nat} {b : List St} {h : Hh} {Q : Kd} {X : Ex} (hn : 10 ≤ n) (hf : St.fits b) (hb : St.bct b < 100000)
    (w : ∀ h', h.length ≤ h'.length → Keep [] h h' → Q (.int (St.bneed b)) h') : rn n i_law_whole [.tup (St.ds b)] h Q X := by
  cases n with
  | zero => omega
  | succ n =>
    have hl := sds_len b
    have hl2 := len_bct b
    refine u_law_whole ?_
    walk_at "go"
    rename_i p h1 e1 g1 g2 g3 k1
    refine while_i (fun m σ h' => ∃ (ts : List St) (most : Int) (x3 x4 : Option D), m = St.bct ts ∧ σ = [some (.tup (St.ds b)), some (.int most), some (.ref p), x3, x4] ∧ h'[p]? = some (.lst (St.ds ts)) ∧ St.fits ts ∧ max most (St.bneed ts) = St.bneed b ∧ 0 ≤ most ∧ St.bct ts ≤ St.bct b ∧ h1.length ≤ h'.length ∧ Keep [p] h1 h') ?_ _ (St.bct b) _ _ (fuel_lt (by omega)) ?_
    · rintro m σ h2 K ⟨ts, most, x3, x4, rfl, rfl, e2, ff, hm, hp, hc, l2, k2⟩ hK
      have ht := sds_len ts
      have ht2 := len_bct ts
      walk_at "go"
      rcases List.eq_nil_or_concat ts with rfl | ⟨ts, t, rfl⟩
      · simp only [St.bneed] at hm
        walk_at "go"
        rw [show most = St.bneed b by omega]
        exact w _ (by omega) (by walk_at "keep")
      · rw [List.concat_eq_append] at *
        have ht3 := sds_len ts
        have ht4 := len_bct ts
        rw [sds_app] at e2
        obtain ⟨ft, ff⟩ := sfits_l ff
        rw [bneed_app] at hm
        rw [sbct_app] at hc hK ht2
        simp only [St.ds, St.bneed, St.bct, List.length_append, List.length_singleton] at e2 hm hc hK ht2
        refine br_t ?_ ?_
        · rw [decide_eq_true_eq]
          rw [sds_app, List.length_append]
          simp only [St.ds, List.length_singleton]
          omega
        cases t with
        | var x e =>
          walk_at "go"
          rename_i h3 e3 l3 k3
          rw [List.dropLast_concat] at e3
          have q1 := ff.1
          refine due_ok (e := e) (by have := q1.2; omega) (Int.le_refl _) (sz7 q1) fun h4 l4 k4 => ?_
          have np := need_pos e 0 (Int.le_refl _)
          walk_at "go"
          refine hK _ _ _ (by simp only [St.ct]; omega) ⟨ts, _, _, _, rfl, rfl, by walk_at "get", ft, ?_, by omega, by simp only [St.ct] at hc; omega, by omega, by walk_at "keep"⟩
          have := bneed_pos b
          simp only [St.need] at hm ⊢
          omega
        | set x e =>
          walk_at "go"
          rename_i h3 e3 l3 k3
          rw [List.dropLast_concat] at e3
          have q1 := ff.1
          refine due_ok (e := e) (by have := q1.2; omega) (Int.le_refl _) (sz7 q1) fun h4 l4 k4 => ?_
          have np := need_pos e 0 (Int.le_refl _)
          walk_at "go"
          refine hK _ _ _ (by simp only [St.ct]; omega) ⟨ts, _, _, _, rfl, rfl, by walk_at "get", ft, ?_, by omega, by simp only [St.ct] at hc; omega, by omega, by walk_at "keep"⟩
          have := bneed_pos b
          simp only [St.need] at hm ⊢
          omega
        | call x as =>
          walk_at "go"
          rename_i h3 e3 l3 k3
          rw [List.dropLast_concat] at e3
          have q1 := ff.1
          refine due_ok (e := Ep.call x as) (by have := q1.2; omega) (Int.le_refl _) (sz7 q1) fun h4 l4 k4 => ?_
          have np := need_pos (Ep.call x as) 0 (Int.le_refl _)
          walk_at "go"
          refine hK _ _ _ (by simp only [St.ct]; omega) ⟨ts, _, _, _, rfl, rfl, by walk_at "get", ft, ?_, by omega, by simp only [St.ct] at hc; omega, by omega, by walk_at "keep"⟩
          have := bneed_pos b
          simp only [St.need] at hm ⊢
          omega
        | ret e =>
          walk_at "go"
          rename_i h3 e3 l3 k3
          rw [List.dropLast_concat] at e3
          have q1 := ff.1
          refine due_ok (e := e) (by have := q1.2; omega) (Int.le_refl _) (sz7 q1) fun h4 l4 k4 => ?_
          have np := need_pos e 0 (Int.le_refl _)
          walk_at "go"
          refine hK _ _ _ (by simp only [St.ct]; omega) ⟨ts, _, _, _, rfl, rfl, by walk_at "get", ft, ?_, by omega, by simp only [St.ct] at hc; omega, by omega, by walk_at "keep"⟩
          have := bneed_pos b
          simp only [St.need] at hm ⊢
          omega
        | out e =>
          walk_at "go"
          rename_i h3 e3 l3 k3
          rw [List.dropLast_concat] at e3
          have q1 := ff.1
          refine due_ok (e := e) (by have := q1.2; omega) (Int.le_refl _) (sz7 q1) fun h4 l4 k4 => ?_
          have np := need_pos e 0 (Int.le_refl _)
          walk_at "go"
          refine hK _ _ _ (by simp only [St.ct]; omega) ⟨ts, _, _, _, rfl, rfl, by walk_at "get", ft, ?_, by omega, by simp only [St.ct] at hc; omega, by omega, by walk_at "keep"⟩
          have := bneed_pos b
          simp only [St.need] at hm ⊢
          omega
        | hold b0 =>
          have hd0 := sds_len b0
          have hd1 := len_bct b0
          simp only [St.ct] at hc hK ht2
          walk_at "go"
          rename_i h3 e3 l3 k3 h4 e4 l4 k4
          have q1 := ff.1
          refine hK _ _ _ ?_ ⟨ts ++ b0, _, _, _, rfl, rfl, ?_, sfits_app _ _ ft q1, ?_, by omega, by rw [sbct_app]; omega, by omega, by walk_at "keep"⟩
          · rw [sbct_app]; omega
          · rw [e4, List.dropLast_concat, sds_app]
          · rw [bneed_app]
            simp only [St.need] at hm
            have := bneed_pos b0
            omega
        | whl e b0 =>
          have hd0 := sds_len b0
          have hd1 := len_bct b0
          simp only [St.ct] at hc hK ht2
          walk_at "go"
          rename_i h3 e3 l3 k3
          rw [List.dropLast_concat] at e3
          have q1 := ff.1
          refine due_ok (e := e) (by have := q1.1.2; omega) (Int.le_refl _) (sz7 q1.1) fun h4 l4 k4 => ?_
          have np := need_pos e 0 (Int.le_refl _)
          walk_at "go"
          rename_i h5 e5 l5 k5
          refine hK _ _ _ ?_ ⟨ts ++ b0, _, _, _, rfl, rfl, by rw [e5, sds_app], sfits_app _ _ ft q1.2, ?_, by omega, by rw [sbct_app]; omega, by omega, by walk_at "keep"⟩
          · rw [sbct_app]; omega
          · rw [bneed_app]
            simp only [St.need] at hm
            have := bneed_pos b0
            omega
        | ifs e b0 c0 =>
          have hd0 := sds_len b0
          have hd1 := len_bct b0
          simp only [St.ct] at hc hK ht2
          have hd2 := sds_len c0
          have hd3 := len_bct c0
          walk_at "go"
          rename_i h3 e3 l3 k3
          rw [List.dropLast_concat] at e3
          have q1 := ff.1
          refine due_ok (e := e) (by have := q1.1.2; omega) (Int.le_refl _) (sz7 q1.1) fun h4 l4 k4 => ?_
          have np := need_pos e 0 (Int.le_refl _)
          walk_at "go"
          rename_i h5 e5 l5 k5 h6 e6 l6 k6
          refine hK _ _ _ ?_ ⟨ts ++ b0 ++ c0, _, _, _, rfl, rfl, by rw [e6, sds_app, sds_app], sfits_app _ _ (sfits_app _ _ ft q1.2.1) q1.2.2, ?_, by omega, by rw [sbct_app, sbct_app]; omega, by omega, by walk_at "keep"⟩
          · rw [sbct_app, sbct_app]; omega
          · rw [bneed_app, bneed_app]
            simp only [St.need] at hm
            have := bneed_pos b0
            have := bneed_pos c0
            omega
    · exact ⟨b, 0, _, _, rfl, rfl, e1, hf, by have := bneed_pos b; omega, Int.le_refl _, Nat.le_refl _, Nat.le_refl _, Keep.refl⟩

end Lw

set_option Elab.async false
set_option linter.all false
set_option maxRecDepth 100000
set_option maxHeartbeats 1000000
namespace Lw
open PySem PySem.Spec PyProof.Rows L2 Mi
local macro_rules | `(tactic| walk_at "mem") => `(tactic| first | exact fun _ z => absurd z List.not_mem_nil | exact List.not_mem_nil | (intro i hi; simp only [List.mem_cons, List.not_mem_nil, or_false, false_or] at hi ⊢; omega) | (simp only [List.mem_cons, List.not_mem_nil, or_false, false_or, not_or]; omega))
local macro_rules | `(tactic| walk_at "get") => `(tactic| first | assumption | (apply Keep.get; assumption; walk_at "get"; walk_at "mem"))
local macro_rules | `(tactic| walk_at "keep") => `(tactic| first | assumption | exact Keep.refl | (apply Keep.step; assumption; walk_at "keep"; walk_at "mem"))
local macro_rules | `(tactic| walk_at "one") => `(tactic| (conv => whnf) <;> first
  | (refine rdO_i (by walk_at "get") ?_)
  | (refine itm_i (by first | rfl | assumption | exact getAt_end _ _) ?_)
  | (refine new_i ?_; intro p h' e1 l1 l2 l3 k)
  | (refine put_i (by walk_at "get") ?_; intro h' e1 l1 k)
  | (refine iLst_i (by first | rfl | exact intsOf_map _) ?_)
  | (refine br_t (by rfl) ?_)
  | (refine br_f (by rfl) ?_)
  | (refine chk_i (by first | rfl | assumption | exact mulOk_r (by decide) | exact mulOk_l (by decide) | exact small_lt (by simp only [List.length_map, List.length_cons, List.length_append, List.length_take, List.length_nil, List.length_replicate, List.length_dropLast]; omega) | exact lenOk_le (by simp only [List.length_map, List.length_cons, List.length_append, List.length_take, List.length_nil, List.length_replicate, List.length_dropLast]; omega) | exact lenOk_le (by omega) | exact small_lt (by omega) | (simp; omega)) ?_))
local macro_rules | `(tactic| walk_at "go") => `(tactic| (repeat walk_at "one"); try (conv => whnf))
local macro_rules | `(tactic| walk_at "br") => `(tactic| (refine br_i (fun hc => ?_) (fun hc => ?_) <;> simp only [Bool.not_eq_true', Bool.not_eq_false', beq_iff_eq, beq_eq_false_iff_ne, ne_eq, decide_eq_true_eq, decide_eq_false_iff_not, bne_iff_ne, bne_eq_false_iff_eq] at hc) <;> first | (exfalso; omega) | walk_at "go")

theorem same_ok {n : Nat} {z : Int} {h : Hh} {Q : Kd} {X : Ex} (hn : 1 ≤ n) (w : ∀ h', h.length ≤ h'.length → Keep [] h h' → Q (.bl true) h') : rn n i_law_same [.int z, .int z] h Q X := by
  cases n with
  | zero => omega
  | succ n =>
    refine u_law_same ?_
    walk_at "go"
    rename_i p h1 e1 g1 g2 g3 k1
    refine while_i (fun m σ h' => ∃ (zs : List Int) (x3 x4 x5 : Option D), m = zs.length ∧ σ = [some (.int z), some (.int z), some (.ref p), x3, x4, x5] ∧ h'[p]? = some (.lst (zs.map fun z => .tup [.int z, .int z])) ∧ h1.length ≤ h'.length ∧ Keep [p] h1 h') ?_ _ 1 _ _ (fuel_lt (by omega)) ?_
    · rintro m σ h2 K ⟨zs, x3, x4, x5, rfl, rfl, e2, l2, k2⟩ hK
      walk_at "go"
      rcases List.eq_nil_or_concat zs with rfl | ⟨zs, y, rfl⟩
      · walk_at "go"
        exact w _ (by omega) (by walk_at "keep")
      · rw [List.concat_eq_append] at *
        simp only [List.map_append, List.map_cons, List.map_nil, List.length_append, List.length_singleton] at e2 hK
        refine br_t (by rw [decide_eq_true_eq]; simp only [List.map_append, List.map_cons, List.map_nil, List.length_append, List.length_singleton]; omega) ?_
        walk_at "go"
        rename_i h3 e3 l3 k3
        rw [List.dropLast_concat] at e3
        refine br_f (by simp) ?_
        walk_at "go"
        exact hK _ _ _ (Nat.lt_succ_self _) ⟨zs, _, _, _, rfl, rfl, e3, by omega, by walk_at "keep"⟩
    · exact ⟨[z], _, _, _, rfl, rfl, e1, Nat.le_refl _, Keep.refl⟩
theorem same_t {n : Nat} {ts : List Int} {h : Hh} {Q : Kd} {X : Ex} (hn : 1 ≤ n) (ht : ts.length < 100) (w : ∀ h', h.length ≤ h'.length → Keep [] h h' → Q (.bl true) h') : rn n i_law_same [.tup (ts.map .int), .tup (ts.map .int)] h Q X := by
  cases n with
  | zero => omega
  | succ n =>
    have hlt : (ts.map D.int).length = ts.length := List.length_map ..
    refine u_law_same ?_
    walk_at "go"
    rename_i p h1 e1 g1 g2 g3 k1
    refine while_i (fun m σ h' => ∃ (x3 x4 x5 : Option D), σ = [some (.tup (ts.map .int)), some (.tup (ts.map .int)), some (.ref p), x3, x4, x5] ∧ ((m = 100 ∧ h'[p]? = some (.lst [.tup [.tup (ts.map .int), .tup (ts.map .int)]])) ∨ ∃ zs : List Int, m = zs.length ∧ zs.length < 100 ∧ h'[p]? = some (.lst (zs.map fun z => .tup [.int z, .int z]))) ∧ h1.length ≤ h'.length ∧ Keep [p] h1 h') ?_ _ 100 _ _ (fuel_lt (by omega)) ?_
    · rintro m σ h2 K ⟨x3, x4, x5, rfl, ⟨rfl, e2⟩ | ⟨zs, rfl, hz, e2⟩, l2, k2⟩ hK
      · walk_at "go"
        rename_i h3 e3 l3 k3
        refine br_f (by simp) ?_
        walk_at "go"
        rename_i q h4 e4 g4 g5 g6 k4
        refine comp_i (I := fun r acc h' => ∃ z1 z2, ts = z1 ++ z2 ∧ r = range z2.length 0 z1.length ∧ acc = z1.map (fun z => .tup [.int z, .int z]) ∧ h4.length ≤ h'.length ∧ Keep [q] h4 h') ?_ ?_ _ _ _ e4 ?_
        · rintro x r acc h5 K2 e5 ⟨z1, z2, ez, er, rfl, l5, k5⟩ hK2
          obtain ⟨m', em, rfl, rfl⟩ := range_cons er
          cases z2 with
          | nil => cases em
          | cons z z2 =>
            have em2 : z2.length = m' := by simpa using em
            have g0 : ts[z1.length]? = some z := by rw [ez]; simp
            have gd : getAt (ts.map D.int) (0 + (z1.length : Int)) = some (.int z) := getAt_map (i := z1.length) (by rw [List.getElem?_map, g0]; rfl) (by omega)
            have hzl := congrArg List.length ez
            simp only [List.length_append, List.length_cons] at hzl
            walk_at "go"
            rename_i h6 e6 l6 k6
            exact hK2 _ _ e6 ⟨z1 ++ [z], z2, by rw [ez]; simp, by rw [em2, List.length_append]; rfl, by simp, by omega, by walk_at "keep"⟩
        · rintro acc h5 e5 ⟨z1, z2, ez, er, rfl, l5, k5⟩
          have := List.eq_nil_of_length_eq_zero (range_nil er)
          subst this
          rw [List.append_nil] at ez
          subst ez
          walk_at "go"
          rename_i h6 e6 l6 k6
          exact hK ts.length _ _ (by omega) ⟨_, _, _, rfl, .inr ⟨ts, rfl, ht, e6⟩, by omega, by walk_at "keep"⟩
        · exact ⟨[], ts, rfl, by simp, rfl, Nat.le_refl _, Keep.refl⟩
      · walk_at "go"
        rcases List.eq_nil_or_concat zs with rfl | ⟨zs, y, rfl⟩
        · walk_at "go"
          exact w _ (by omega) (by walk_at "keep")
        · rw [List.concat_eq_append] at *
          simp only [List.map_append, List.map_cons, List.map_nil, List.length_append, List.length_singleton] at e2 hK hz
          refine br_t (by rw [decide_eq_true_eq]; simp only [List.map_append, List.map_cons, List.map_nil, List.length_append, List.length_singleton]; omega) ?_
          walk_at "go"
          rename_i h3 e3 l3 k3
          rw [List.dropLast_concat] at e3
          refine br_f (by simp) ?_
          walk_at "go"
          exact hK _ _ _ (Nat.lt_succ_self _) ⟨_, _, _, rfl, .inr ⟨zs, rfl, by omega, e3⟩, by omega, by walk_at "keep"⟩
    · exact ⟨_, _, _, rfl, .inl ⟨rfl, e1⟩, Nat.le_refl _, Keep.refl⟩

end Lw

set_option Elab.async false
set_option linter.all false
set_option maxRecDepth 100000
set_option maxHeartbeats 1000000
namespace Lw
open PySem PySem.Spec PyProof.Rows L2 Mi
local macro_rules | `(tactic| walk_at "mem") => `(tactic| first | exact fun _ z => absurd z List.not_mem_nil | exact List.not_mem_nil | (intro i hi; simp only [List.mem_cons, List.not_mem_nil, or_false, false_or] at hi ⊢; omega) | (simp only [List.mem_cons, List.not_mem_nil, or_false, false_or, not_or]; omega))
local macro_rules | `(tactic| walk_at "get") => `(tactic| first | assumption | (apply Keep.get; assumption; walk_at "get"; walk_at "mem"))
local macro_rules | `(tactic| walk_at "keep") => `(tactic| first | assumption | exact Keep.refl | (apply Keep.step; assumption; walk_at "keep"; walk_at "mem"))
local macro_rules | `(tactic| walk_at "one") => `(tactic| (conv => whnf) <;> first
  | (refine rdO_i (by walk_at "get") ?_)
  | (refine itm_i (by first | rfl | assumption | exact getAt_end _ _) ?_)
  | (refine new_i ?_; intro p h' e1 l1 l2 l3 k)
  | (refine put_i (by walk_at "get") ?_; intro h' e1 l1 k)
  | (refine iLst_i (by first | rfl | exact intsOf_map _) ?_)
  | (refine br_t (by rfl) ?_)
  | (refine br_f (by rfl) ?_)
  | (refine chk_i (by first | rfl | assumption | exact mulOk_r (by decide) | exact mulOk_l (by decide) | exact small_lt (by simp only [List.length_map, List.length_cons, List.length_append, List.length_take, List.length_nil, List.length_replicate, List.length_dropLast]; omega) | exact lenOk_le (by simp only [List.length_map, List.length_cons, List.length_append, List.length_take, List.length_nil, List.length_replicate, List.length_dropLast]; omega) | exact lenOk_le (by omega) | exact small_lt (by omega) | (simp; omega)) ?_))
local macro_rules | `(tactic| walk_at "go") => `(tactic| (repeat walk_at "one"); try (conv => whnf))
local macro_rules | `(tactic| walk_at "br") => `(tactic| (refine br_i (fun hc => ?_) (fun hc => ?_) <;> simp only [Bool.not_eq_true', Bool.not_eq_false', beq_iff_eq, beq_eq_false_iff_ne, ne_eq, decide_eq_true_eq, decide_eq_false_iff_not, bne_iff_ne, bne_eq_false_iff_eq] at hc) <;> first | (exfalso; omega) | walk_at "go")

theorem deep_ok {n s dr : Nat} {z sd : Int} {h : Hh} {Q : Kd} {X : Ex} (hn : 2 ≤ n) (sp : Spr h s dr) (h0 : 0 ≤ z) (h1 : z ≤ 20)
    (w : ∀ (e : Ep) h', e.fit → e.ht ≤ 41 → e.sz ≤ 60 → Spr h' s dr → h.length ≤ h'.length → Keep [s, dr] h h' → Q e.d h') : rn n i_law_deep [.ref s, .int z, .int sd] h Q X := by
  cases n with
  | zero => omega
  | succ n =>
    refine u_law_deep ?_
    have s1 := sp.lt
    walk_at "go"
    refine loop_i (I := fun r σ h' => ∃ (i : Nat) (e : Ep) (x4 x5 : Option D), i ≤ z.toNat ∧ r = range (z.toNat - i) 0 i ∧ σ = [some (.ref s), some (.int z), some (.int sd), some e.d, x4, x5] ∧ e.fit ∧ e.ht ≤ 2 * i + 1 ∧ e.sz ≤ 3 * i ∧ Spr h' s dr ∧ h.length ≤ h'.length ∧ Keep [s, dr] h h') ?_ ?_ _ _ _ ?_
    · rintro x r σ h2 K ⟨i, e, x4, x5, hi, er, rfl, ff, tt, zz, sp2, l2, k2⟩ hK
      obtain ⟨m', em, rfl, rfl⟩ := range_cons er
      walk_at "go"
      refine draw1 sp2 (by decide) (by omega) fun v h3 v0 v1 sp3 l3 k3 => ?_
      walk_at "go"
      walk_at "br"
      · rename_i p h4 e4 g4 g5 g6 k4
        have sp4 := sp3.mono k4 List.not_mem_nil List.not_mem_nil
        refine draw1 sp4 (by decide) (by omega) fun c h5 c0 c1 sp5 l5 k5 => ?_
        rcases (show c = 0 ∨ c = 1 ∨ c = 2 by omega) with rfl | rfl | rfl
        · walk_at "go"
          refine hK _ _ ⟨i + 1, .call w_f [e], _, _, by omega, by rw [show z.toNat - (i + 1) = m' by omega], rfl, ⟨by simp, ff, trivial⟩, by simp only [Ep.ht, Ep.hts]; omega, by simp only [Ep.sz, Ep.szs]; omega, sp5.mono (S := []) (by walk_at "keep") List.not_mem_nil List.not_mem_nil, by omega, by walk_at "keep"⟩
        · walk_at "go"
          refine hK _ _ ⟨i + 1, .call w_f [.num 1, e], _, _, by omega, by rw [show z.toNat - (i + 1) = m' by omega], rfl, ⟨by simp, trivial, ff, trivial⟩, by simp only [Ep.ht, Ep.hts]; omega, by simp only [Ep.sz, Ep.szs]; omega, sp5.mono (S := []) (by walk_at "keep") List.not_mem_nil List.not_mem_nil, by omega, by walk_at "keep"⟩
        · walk_at "go"
          refine hK _ _ ⟨i + 1, .call w_f [.num 1, .num 1, e], _, _, by omega, by rw [show z.toNat - (i + 1) = m' by omega], rfl, ⟨by simp, trivial, trivial, ff, trivial⟩, by simp only [Ep.ht, Ep.hts]; omega, by simp only [Ep.sz, Ep.szs]; omega, sp5.mono (S := []) (by walk_at "keep") List.not_mem_nil List.not_mem_nil, by omega, by walk_at "keep"⟩
      · have ad : K ([some (.ref s), some (.int z), some (.int sd), some (Ep.op .add (.nam w_a) e).d, some (.int (0 + i)), some (.int v)]) h3 := hK _ _ ⟨i + 1, .op .add (.nam w_a) e, _, _, by omega, by rw [show z.toNat - (i + 1) = m' by omega], rfl, ⟨trivial, ff⟩, by simp only [Ep.ht]; omega, by simp only [Ep.sz]; omega, sp3, by omega, by walk_at "keep"⟩
        walk_at "br"
        · walk_at "br"
          · exact hK _ _ ⟨i + 1, .op .sub e (.nam w_a), _, _, by omega, by rw [show z.toNat - (i + 1) = m' by omega], rfl, ⟨ff, trivial⟩, by simp only [Ep.ht]; omega, by simp only [Ep.sz]; omega, sp3, by omega, by walk_at "keep"⟩
          · exact ad
        · exact ad
    · rintro σ h2 ⟨i, e, x4, x5, hi, er, rfl, ff, tt, zz, sp2, l2, k2⟩
      have := range_nil er
      walk_at "go"
      exact w e _ ff (by omega) (by omega) sp2 (by omega) (by walk_at "keep")
    · exact ⟨0, .inn, _, _, by omega, rfl, rfl, trivial, by simp [Ep.ht], by simp [Ep.sz], sp, Nat.le_refl _, Keep.refl⟩

end Lw

set_option Elab.async false
set_option linter.all false
set_option maxRecDepth 100000
set_option maxHeartbeats 1000000
namespace Lw
open PySem PySem.Spec PyProof.Rows L2 Mi
local macro_rules | `(tactic| walk_at "mem") => `(tactic| first | exact fun _ z => absurd z List.not_mem_nil | exact List.not_mem_nil | (intro i hi; simp only [List.mem_cons, List.not_mem_nil, or_false, false_or] at hi ⊢; omega) | (simp only [List.mem_cons, List.not_mem_nil, or_false, false_or, not_or]; omega))
local macro_rules | `(tactic| walk_at "get") => `(tactic| first | assumption | (apply Keep.get; assumption; walk_at "get"; walk_at "mem"))
local macro_rules | `(tactic| walk_at "keep") => `(tactic| first | assumption | exact Keep.refl | (apply Keep.step; assumption; walk_at "keep"; walk_at "mem"))
local macro_rules | `(tactic| walk_at "one") => `(tactic| (conv => whnf) <;> first
  | (refine rdO_i (by walk_at "get") ?_)
  | (refine itm_i (by first | rfl | assumption | exact getAt_end _ _) ?_)
  | (refine new_i ?_; intro p h' e1 l1 l2 l3 k)
  | (refine put_i (by walk_at "get") ?_; intro h' e1 l1 k)
  | (refine iLst_i (by first | rfl | exact intsOf_map _) ?_)
  | (refine br_t (by rfl) ?_)
  | (refine br_f (by rfl) ?_)
  | (refine chk_i (by first | rfl | assumption | exact mulOk_r (by decide) | exact mulOk_l (by decide) | exact small_lt (by simp only [List.length_map, List.length_cons, List.length_append, List.length_take, List.length_nil, List.length_replicate, List.length_dropLast]; omega) | exact lenOk_le (by simp only [List.length_map, List.length_cons, List.length_append, List.length_take, List.length_nil, List.length_replicate, List.length_dropLast]; omega) | exact lenOk_le (by omega) | exact small_lt (by omega) | (simp; omega)) ?_))
local macro_rules | `(tactic| walk_at "go") => `(tactic| (repeat walk_at "one"); try (conv => whnf))
local macro_rules | `(tactic| walk_at "br") => `(tactic| (refine br_i (fun hc => ?_) (fun hc => ?_) <;> simp only [Bool.not_eq_true', Bool.not_eq_false', beq_iff_eq, beq_eq_false_iff_ne, ne_eq, decide_eq_true_eq, decide_eq_false_iff_not, bne_iff_ne, bne_eq_false_iff_eq] at hc) <;> first | (exfalso; omega) | walk_at "go")

theorem cut_map (ms : List Int) (l u : Option Int) : ∃ ns : List Int, Mi.cutD (ms.map .int) l u = ns.map .int ∧ ns.length ≤ ms.length := by
  refine ⟨(ms.drop (HT.sIx (ms.map D.int).length 0 l)).take (HT.sIx (ms.map D.int).length (ms.map D.int).length u - HT.sIx (ms.map D.int).length 0 l), ?_, ?_⟩
  · simp only [Mi.cutD, List.map_take, List.map_drop]
  · simp only [List.length_take, List.length_drop]
    omega
theorem div_lt {a c : Int} {m : Nat} (h : a < c * 55440 ^ (m + 1)) : a / 55440 < c * 55440 ^ m := by
  refine Int.ediv_lt_of_lt_mul (by decide) ?_
  rw [Int.mul_assoc, ← Int.pow_succ]
  exact h
theorem big22 : (10 : Int) ^ (Int.toNat 58) * 10 ^ (Int.toNat 58) ≤ 10 ^ 16 * 55440 ^ 22 := by decide +kernel
theorem bigpos : 0 < (10 : Int) ^ (Int.toNat 58) * 10 ^ (Int.toNat 58) := by decide +kernel
theorem bigmul : mulOk ((10 : Int) ^ (Int.toNat 58)) (10 ^ (Int.toNat 58)) = true := by decide +kernel
theorem spring_ok {n : Nat} {ns : List Int} {h : Hh} {Q : Kd} {X : Ex} (hn : 1 ≤ n) (hl : ns.length ≤ 63) (e0 : h[0]? = some (.frz (ns.map .int)))
    (w : ∀ s dr h', Spr h' s dr → h.length ≤ s → h.length ≤ dr → h.length ≤ h'.length → Keep [] h h' → Q (.ref s) h') : rn n i_law_spring [.ref 0] h Q X := by
  cases n with
  | zero => omega
  | succ n =>
    refine u_law_spring ?_
    have q0 := lt_of e0
    walk_at "go"
    rename_i p h1 e1 g1 g2 g3 k1 q h2 e2 g4 g5 g6 k2
    obtain ⟨ms, em, hm⟩ := cut_map ns none (some 64)
    rw [em] at e2
    refine loopL_i (n := q) (ms.map .int) (fun r σ h' => ∃ (m1 m2 dl : List Int) (st : Int) (x3 x4 : Option D), ms = m1 ++ m2 ∧ r = m2.map .int ∧ σ = [some (.ref 0), some (.ref p), some (.int st), x3, x4] ∧ h'[p]? = some (.lst (dl.map .int)) ∧ h'[q]? = some (.lst (ms.map .int)) ∧ dl.length ≤ 30 * m1.length ∧ h2.length ≤ h'.length ∧ Keep [p] h2 h') (fun r σ h' z => by obtain ⟨_, _, _, _, _, _, _, _, _, _, z, _⟩ := z; exact z) ?_ ?_ _ _ _ _ _ rfl (fuel_lt (by rw [List.drop_zero, List.length_map]; omega)) ?_
    · rintro x r σ h3 K ⟨m1, m2, dl, st, x3, x4, ez, er, rfl, e3, e4, hd, l3, k3⟩ hK
      cases m2 with
      | nil => cases er
      | cons z m2 =>
        obtain ⟨rfl, rfl⟩ := (List.cons.injEq ..).mp er
        have hzl := congrArg List.length ez
        simp only [List.length_append, List.length_cons] at hzl
        walk_at "go"
        have z0 := Int.emod_nonneg (if z < 0 then -z else z) (Int.ne_of_gt bigpos)
        have z1 := Int.emod_lt_of_pos (if z < 0 then -z else z) bigpos
        refine while_i (fun m σ h' => ∃ (size st : Int) (dl : List Int), size < 10 ^ 16 * 55440 ^ m ∧ 0 ≤ size ∧ σ = [some (.ref 0), some (.ref p), some (.int st), some (.int z), some (.int size)] ∧ h'[p]? = some (.lst (dl.map .int)) ∧ h'[q]? = some (.lst (ms.map .int)) ∧ dl.length + m ≤ 30 * (m1.length + 1) ∧ h2.length ≤ h'.length ∧ Keep [p] h2 h') ?_ _ 22 _ _ (fuel_lt (by omega)) ?_
        · rintro m σ h4 K2 ⟨size, st, dl, hs, hp, rfl, e5, e6, hd2, l4, k4⟩ hK2
          walk_at "go"
          refine br_i (fun hc => ?_) (fun hc => ?_)
          · rw [decide_eq_true_eq] at hc
            cases m with
            | zero => exact absurd (Int.lt_of_le_of_lt hc hs) (by decide)
            | succ m =>
              walk_at "go"
              rename_i h5 e7 l5 k5
              exact hK2 m _ _ (Nat.lt_succ_self _) ⟨_, _, dl ++ [size % 55440], div_lt hs, Int.ediv_nonneg hp (by decide), rfl, by rw [e7]; simp, by walk_at "get", by simp only [List.length_append, List.length_singleton]; omega, by omega, by walk_at "keep"⟩
          · walk_at "go"
            exact hK _ _ ⟨m1 ++ [z], m2, dl, _, _, _, by rw [ez]; simp, rfl, rfl, e5, e6, by simp only [List.length_append, List.length_singleton]; omega, l4, k4⟩
        · exact ⟨_, _, dl, Int.lt_of_lt_of_le z1 big22, z0, rfl, e3, e4, by omega, l3, k3⟩
    · rintro σ h3 ⟨m1, m2, dl, st, x3, x4, ez, er, rfl, e3, e4, hd, l3, k3⟩
      walk_at "go"
      rename_i s h4 e5 g7 g8 g9 k4
      exact w s p _ ⟨by omega, _, dl, e5, by walk_at "get"⟩ (by omega) (by omega) (by omega) (by walk_at "keep")
    · exact ⟨[], ms, [], _, _, _, rfl, rfl, rfl, by walk_at "get", e2, by simp, Nat.le_refl _, Keep.refl⟩

end Lw

set_option Elab.async false
set_option linter.all false
set_option maxRecDepth 100000
set_option maxHeartbeats 1000000
namespace Lw
open PySem PySem.Spec PyProof.Rows L2 Mi
local macro_rules | `(tactic| walk_at "mem") => `(tactic| first | exact fun _ z => absurd z List.not_mem_nil | exact List.not_mem_nil | (intro i hi; simp only [List.mem_cons, List.not_mem_nil, or_false, false_or] at hi ⊢; omega) | (simp only [List.mem_cons, List.not_mem_nil, or_false, false_or, not_or]; omega))
local macro_rules | `(tactic| walk_at "get") => `(tactic| first | assumption | (apply Keep.get; assumption; walk_at "get"; walk_at "mem"))
local macro_rules | `(tactic| walk_at "keep") => `(tactic| first | assumption | exact Keep.refl | (apply Keep.step; assumption; walk_at "keep"; walk_at "mem"))
local macro_rules | `(tactic| walk_at "one") => `(tactic| (conv => whnf) <;> first
  | (refine rdO_i (by walk_at "get") ?_)
  | (refine itm_i (by first | rfl | assumption | exact getAt_end _ _) ?_)
  | (refine new_i ?_; intro p h' e1 l1 l2 l3 k)
  | (refine put_i (by walk_at "get") ?_; intro h' e1 l1 k)
  | (refine iLst_i (by first | rfl | exact intsOf_map _) ?_)
  | (refine br_t (by rfl) ?_)
  | (refine br_f (by rfl) ?_)
  | (refine chk_i (by first | rfl | assumption | exact mulOk_r (by decide) | exact mulOk_l (by decide) | exact small_lt (by simp only [List.length_map, List.length_cons, List.length_append, List.length_take, List.length_nil, List.length_replicate, List.length_dropLast]; omega) | exact lenOk_le (by simp only [List.length_map, List.length_cons, List.length_append, List.length_take, List.length_nil, List.length_replicate, List.length_dropLast]; omega) | exact lenOk_le (by omega) | exact small_lt (by omega) | (simp; omega)) ?_))
local macro_rules | `(tactic| walk_at "go") => `(tactic| (repeat walk_at "one"); try (conv => whnf))
local macro_rules | `(tactic| walk_at "br") => `(tactic| (refine br_i (fun hc => ?_) (fun hc => ?_) <;> simp only [Bool.not_eq_true', Bool.not_eq_false', beq_iff_eq, beq_eq_false_iff_ne, ne_eq, decide_eq_true_eq, decide_eq_false_iff_not, bne_iff_ne, bne_eq_false_iff_eq] at hc) <;> first | (exfalso; omega) | walk_at "go")

theorem main_n (n : Nat) (hn : 48 ≤ n) (ns : List Int) (hl : ns.length ≤ 63) : rn (n + 1) i_law [.ref 0] [.frz (ns.map D.int)] (fun d _ => d = .bl true) EX0 := by
  refine u_law ?_
  walk_at "go"
  refine spring_ok (by omega) hl rfl fun s dr h1 sp g1 g2 g3 k1 => ?_
  iterate 7 walk_at "one"
  rename_i fu h2 e2 g4 g5 g6 k2
  have sp2 := sp.mono k2 List.not_mem_nil List.not_mem_nil
  have s1 := sp.lt
  refine loop_i (I := fun r σ h' => ∃ (i : Nat) (x3 x4 x5 : Option D), i ≤ 6 ∧ r = range (6 - i) 0 i ∧ σ = [some (.ref 0), some (.ref s), some (.ref fu), x3, x4, x5, none, none, none] ∧ Spr h' s dr ∧ h'[fu]? = some (.lst FN) ∧ h2.length ≤ h'.length) ?_ ?_ _ _ _ ⟨0, _, _, _, by omega, rfl, rfl, sp2, e2, Nat.le_refl _⟩
  · rintro x r σ h3 K ⟨i, x3, x4, x5, hi, er, rfl, sp3, e3, l3⟩ hK
    obtain ⟨m', em, rfl, rfl⟩ := range_cons er
    walk_at "go"
    rename_i sc h4 e4 g7 g8 g9 k4
    have sp4 := sp3.mono k4 List.not_mem_nil List.not_mem_nil
    have s3 := sp3.lt
    refine draw1 sp4 (by decide) (by omega) fun a h5 a0 a1 sp5 l5 k5 => ?_
    walk_at "go"
    refine expr_ok (1 + a).toNat n s dr sc fu [w_a, w_x1] _ _ _ _ (by omega) (by omega) sp5 (by walk_at "get") (by walk_at "get") (by omega) (by omega) (by omega) (by omega) fun e h6 ef et sp6 l6 k6 => ?_
    have ez := sz_le e ef
    have ez2 : 4 ^ e.ht ≤ 4 ^ 9 := Nat.pow_le_pow_right (by omega) (by omega)
    have ez3 : 4 ^ 9 = 262144 := by decide
    walk_at "go"
    walk_at "br"
    · refine draw1 sp6 (by decide) (by omega) fun a h7 a0 a1 sp7 l7 k7 => ?_
      walk_at "go"
      refine draw1 sp7 (by decide) (by omega) fun a2 h8 a3 a4 sp8 l8 k8 => ?_
      walk_at "go"
      clear ez ez2 et ef
      refine deep_ok (by omega) sp8 (by omega) (by omega) fun e h9 ef et ez sp9 l9 k9 => ?_
      walk_at "go"
      refine draw1 (by assumption) (by decide) (by omega) fun b hb b0 b1 spb lb kb => ?_
      walk_at "go"
      refine draw1 spb (by decide) (by omega) fun c hc c0 c1 spc lc kc => ?_
      obtain ⟨k, hk0, ek⟩ : ∃ k : Int, 0 ≤ k ∧ getAt [D.int 0, .int b, .int 1] c = some (.int k) := by
        rcases (show c = 0 ∨ c = 1 ∨ c = 2 by omega) with rfl | rfl | rfl
        · exact ⟨0, by omega, rfl⟩
        · exact ⟨b, by omega, rfl⟩
        · exact ⟨1, by omega, rfl⟩
      walk_at "go"
      refine need_ok n e n k _ _ _ (by omega) (Nat.le_refl _) ef fun h11 l11 k11 => ?_
      walk_at "go"
      refine due_ok (e := e) (by omega) hk0 (by omega) fun h12 l12 k12 => ?_
      walk_at "go"
      refine same_ok (by omega) fun h13 l13 k13 => ?_
      walk_at "go"
      refine need_ok n (.op .add .inn e) n k _ _ _ (by simp only [Ep.ht]; omega) (Nat.le_refl _) ⟨trivial, ef⟩ fun h14 l14 k14 => ?_
      walk_at "go"
      refine due_ok (e := e) (by omega) (show 0 ≤ k + 1 by omega) (by omega) fun h15 l15 k15 => ?_
      walk_at "go"
      have e9 : (Ep.op .add .inn e).need k = (if e.need (k + 1) > k + 2 then e.need (k + 1) else k + 2) := by simp only [Ep.need]; omega
      rw [e9]
      refine same_ok (by omega) fun h16 l16 k16 => ?_
      walk_at "go"
      refine hK _ _ ⟨i + 1, _, _, _, by omega, by rw [show 6 - (i + 1) = m' by omega], rfl, ?_, by walk_at "get", by omega⟩
      exact (((((spc.mono k11 (by walk_at "mem") (by walk_at "mem")).mono k12 (by walk_at "mem") (by walk_at "mem")).mono k13 (by walk_at "mem") (by walk_at "mem")).mono k14 (by walk_at "mem") (by walk_at "mem")).mono k15 (by walk_at "mem") (by walk_at "mem")).mono k16 (by walk_at "mem") (by walk_at "mem")
    · refine draw1 (by assumption) (by decide) (by omega) fun b hb b0 b1 spb lb kb => ?_
      walk_at "go"
      refine draw1 spb (by decide) (by omega) fun c hc c0 c1 spc lc kc => ?_
      obtain ⟨k, hk0, ek⟩ : ∃ k : Int, 0 ≤ k ∧ getAt [D.int 0, .int b, .int 1] c = some (.int k) := by
        rcases (show c = 0 ∨ c = 1 ∨ c = 2 by omega) with rfl | rfl | rfl
        · exact ⟨0, by omega, rfl⟩
        · exact ⟨b, by omega, rfl⟩
        · exact ⟨1, by omega, rfl⟩
      walk_at "go"
      refine need_ok n e n k _ _ _ (by omega) (Nat.le_refl _) ef fun h11 l11 k11 => ?_
      walk_at "go"
      refine due_ok (e := e) (by omega) hk0 (by omega) fun h12 l12 k12 => ?_
      walk_at "go"
      refine same_ok (by omega) fun h13 l13 k13 => ?_
      walk_at "go"
      refine need_ok n (.op .add .inn e) n k _ _ _ (by simp only [Ep.ht]; omega) (Nat.le_refl _) ⟨trivial, ef⟩ fun h14 l14 k14 => ?_
      walk_at "go"
      refine due_ok (e := e) (by omega) (show 0 ≤ k + 1 by omega) (by omega) fun h15 l15 k15 => ?_
      walk_at "go"
      have e9 : (Ep.op .add .inn e).need k = (if e.need (k + 1) > k + 2 then e.need (k + 1) else k + 2) := by simp only [Ep.need]; omega
      rw [e9]
      refine same_ok (by omega) fun h16 l16 k16 => ?_
      walk_at "go"
      refine hK _ _ ⟨i + 1, _, _, _, by omega, by rw [show 6 - (i + 1) = m' by omega], rfl, ?_, by walk_at "get", by omega⟩
      exact (((((spc.mono k11 (by walk_at "mem") (by walk_at "mem")).mono k12 (by walk_at "mem") (by walk_at "mem")).mono k13 (by walk_at "mem") (by walk_at "mem")).mono k14 (by walk_at "mem") (by walk_at "mem")).mono k15 (by walk_at "mem") (by walk_at "mem")).mono k16 (by walk_at "mem") (by walk_at "mem")
  · rintro σ h3 ⟨i, x3, x4, x5, hi, er, rfl, sp3, e3, l3⟩
    have s3 := sp3.lt
    walk_at "one"
    refine loop_i (I := fun r σ h' => ∃ (i : Nat) (x3 x6 : Option D), i ≤ 6 ∧ r = range (6 - i) 0 i ∧ σ = [some (.ref 0), some (.ref s), some (.ref fu), x3, x4, x5, x6, none, none] ∧ Spr h' s dr ∧ h'[fu]? = some (.lst FN) ∧ h3.length ≤ h'.length) ?_ ?_ _ _ _ ⟨0, _, _, by omega, rfl, rfl, sp3, e3, Nat.le_refl _⟩
    · rintro x r σ h4 K ⟨i, x3, x6, hi, er, rfl, sp4, e4, l4⟩ hK
      obtain ⟨m', em, rfl, rfl⟩ := range_cons er
      walk_at "go"
      rename_i sx h5 e5 g7 g8 g9 k5 sc h6 e6 g10 g11 g12 k6
      have sp6 := (sp4.mono k5 List.not_mem_nil List.not_mem_nil).mono k6 List.not_mem_nil List.not_mem_nil
      have s4 := sp4.lt
      refine draw1 sp6 (by decide) (by omega) fun a h7 a0 a1 sp7 l7 k7 => ?_
      walk_at "go"
      refine blk_ok 3 n s dr sx sc fu [w_a, w_x1] [w_v1, w_v2, w_v3] _ _ _ _ _ (by omega) (by rfl) ⟨sp7, by walk_at "get", by walk_at "get", by walk_at "get", by omega, by decide⟩ fun b ys h8 bf bh bc v8 ly l8 k8 => ?_
      have c8 : 6 * 8 ^ 3 = 3072 := by decide
      have sp8 := v8.spr
      have e8 := v8.efu
      walk_at "go"
      refine (sn_ok n).2 b n _ _ _ (by omega) (Nat.le_refl _) ⟨bf, by omega⟩ fun h9 l9 k9 => ?_
      walk_at "go"
      refine whole_ok (by omega) bf (by omega) fun h10 l10 k10 => ?_
      walk_at "go"
      refine same_ok (by omega) fun h11 l11 k11 => ?_
      walk_at "go"
      refine hK _ _ ⟨i + 1, _, _, by omega, by rw [show 6 - (i + 1) = m' by omega], rfl, ?_, by walk_at "get", by omega⟩
      exact ((sp8.mono k9 (by walk_at "mem") (by walk_at "mem")).mono k10 (by walk_at "mem") (by walk_at "mem")).mono k11 (by walk_at "mem") (by walk_at "mem")
    · rintro σ h4 ⟨i, x3, x6, hi, er, rfl, sp4, e4, l4⟩
      walk_at "go"
      refine (sn_ok n).2 [] n _ _ _ (by simp only [St.bht]; omega) (Nat.le_refl _) ⟨trivial, by decide⟩ fun h5 l5 k5 => ?_
      walk_at "go"
      refine (sn_ok n).2 [.hold [.call w_g []]] n _ _ _ (by simp only [St.bht, St.ht]; omega) (Nat.le_refl _) ⟨by simp [St.fits, St.fit, Ep.fit, Ep.fits, Ep.ht, Ep.hts], by simp [St.bct, St.ct]⟩ fun h6 l6 k6 => ?_
      walk_at "go"
      refine (sn_ok n).2 [.out .inn] n _ _ _ (by simp only [St.bht, St.ht]; omega) (Nat.le_refl _) ⟨by simp [St.fits, St.fit, Ep.fit, Ep.fits, Ep.ht, Ep.hts], by simp [St.bct, St.ct]⟩ fun h7 l7 k7 => ?_
      walk_at "go"
      refine need_ok n (.call w_g []) n 5 _ _ _ (by simp only [Ep.ht, Ep.hts]; omega) (Nat.le_refl _) ⟨by simp, trivial⟩ fun h8 l8 k8 => ?_
      walk_at "go"
      refine (sn_ok n).2 [.ret .inn] n _ _ _ (by simp only [St.bht, St.ht]; omega) (Nat.le_refl _) ⟨by simp [St.fits, St.fit, Ep.fit, Ep.fits, Ep.ht, Ep.hts], by simp [St.bct, St.ct]⟩ fun h9 l9 k9 => ?_
      have b1 : St.bneed [] = 0 := by simp [St.bneed]
      have b2 : St.bneed [.hold [.call w_g []]] = 0 := by simp [St.bneed, St.need, Ep.need, Ep.argsL]
      have b3 : St.bneed [.out .inn] = 1 := by simp [St.bneed, St.need, Ep.need, Ep.argsL]; decide
      have b4 : (Ep.call w_g []).need 5 = 0 := by simp [Ep.need, Ep.argsL]
      have b5 : St.bneed [.ret .inn] = 0 := by simp [St.bneed, St.need, Ep.need, Ep.argsL]
      rw [b1, b2, b3, b4, b5]
      walk_at "go"
      exact same_t (ts := [0, 0, 1, 0, 0]) (by omega) (by decide) fun h10 l10 k10 => rfl
abbrev lev : Nat := 60
theorem main (ns : List Int) (h : ns.length ≤ 63) : run (cns.map (·.2)) (pds.map (·.m)) lev 15 [.ref 0] [.frz (ns.map D.int)] (fun d _ => d = .bl true) EX0 := main_n 59 (by omega) ns h

end Lw

namespace Lw
open PySem PySem.Spec PyProof.Rows L2 Mi
abbrev R : PySem.W.OpenRow := PySem.W.OpenLaw.row PySem.Challenge.rw_placesforgood_k12_needs
abbrev hk : PySem.W.Hook := hookM 4 cns pds
def ob (s : PySem.W.SharedT) : He.AlD := obsMG 4 cns pds (HandSHeadRun.getT s)
theorem ob_eq (s : PySem.W.SharedT) : ob s = hk.obs s.abs := obsMG_eq (HandSHeadRun.getT_eq s)
def loose : List PySem.Str := ["own_blocks", "args_need", "expression_need", "statement_need", "block_need", "_law_spring", "_law_draw", "_law_table", "_law_same", "_law_expression", "_law_statement", "_law_block", "_law_named", "_law_due", "_law_whole", "_law_deep", "PAIRED"]
theorem run_top (w : World) : HandSHeadRun.RunEq R (PySem.W.view R.prog [20]) hk ob 3000 loose w := by
  intro os
  kernel_rfl
end Lw
open PySem PySem.W PySem.Calls PyProof.Rows
set_option maxRecDepth 100000 in
set_option maxHeartbeats 0 in
theorem PySem.Challenge.cw_placesforgood_k12_needs_holds : PySem.Challenge.rw_placesforgood_k12_needs.Holds := by
  w_on; o_law
  refine HandSHeadRun.head_any (r := OpenLaw.row PySem.Challenge.rw_placesforgood_k12_needs) (q := view (OpenLaw.row PySem.Challenge.rw_placesforgood_k12_needs).prog [20]) (H := Lw.hk) (ob := Lw.ob) (M := 3000) (loose := Lw.loose) (d := HandSHeadRun.topDef (OpenLaw.row PySem.Challenge.rw_placesforgood_k12_needs).prog 20) (kwd := []) Lw.ob_eq
    (by kernel_rfl) (fun s => by kernel_rfl) Lw.run_top (by kernel_rfl) (by kernel_rfl) (by kernel_rfl) (by rfl) (by first | assumption | decide +kernel) (by decide +kernel) ⟨rfl, rfl, rfl, rfl, rfl, by decide +kernel⟩ ?hw ?hc
  case hw => w_witness2
  case hc =>
    refine L2.walk_ofE (l := PySem.Challenge.rw_placesforgood_k12_needs) (n := 63) (k := Lw.lev) (x := "script") (CX := L2.CX0) rfl (by decide) (by kernel_rfl) ⟨rfl, by decide, by decide⟩ ?F (fun _ _ _ _ z => z)
    intro w mg fa h Y G hmg0
    have hmg : mg ("law" : PySem.Str) = some (.ref fa) := by
      have e : (HandSHeadRun.topDef (OpenLaw.row PySem.Challenge.rw_placesforgood_k12_needs).prog 20).name = ("law" : PySem.Str) := by kernel_rfl
      rw [← e]
      exact hmg0
    exact Mi.law_F (p := ⟨"law", Lw.topS 20, ["script", "spring", "funs", "lap", "e", "k", "block", "call", "told"], Lw.m_law⟩) (iL := 15) Y G hmg rfl rfl Lw.all_chk Lw.main

