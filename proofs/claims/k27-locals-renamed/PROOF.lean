import PyProof.Rows.All
import Wide.All
import OpenK.AllK
import Wide.FinOn
import HandS.ForMost
import HandS.Wide
import HandS.IsInst
import HandS.Flow
import HandS.Conv
import HandS.Deep
import HandS.Defaults
import HandS.Head0
import HandS.Head1
import HandS.Head2
import HandS.HeadEnd
import HandS.HeadHook1
import HandS.HeadHook2
import HandS.Flt
import HandS.IterVal
import HandS.TupAny
import HandS.Strs
import HandS.Small
import HandS.Exc
import HandS.ExcOwn
import HandS.ExcInit
import HandS.ExcField
import HandS.TryOnly
import HandS.Sort
import KE.KDictPairs
import PyProof.SetRoads
import PyProof.Rows.SetFrom
import PySem.Challenge.RW_placesforgood_k27_locals_renamed
set_option Elab.async false
set_option linter.all false
set_option maxRecDepth 100000
/-! Mi: a small language of deep values over the layer: its words, its run (a predicate transformer). -/
namespace Mi
open PySem PySem.Spec PyProof.Rows L2

/-! ### values, objects -/
inductive D where
  | non | bl (b : Bool) | int (i : Int) | str (x : Str) | tup (xs : List D) | ref (n : Nat) | fn (a : Addr)
/-- objects: lists, lists that nobody changes, dicts -/
inductive MO where
  | lst (xs : List D) | frz (xs : List D) | dic (kvs : List (Str × D))
abbrev Hh := List MO
abbrev Sg := List (Option D)
abbrev Kd := D → Hh → Prop
/-- what an error may leave: its class, its fields -/
abbrev Ex := Str → List (Str × D) → Hh → Prop
abbrev EX0 : Ex := fun _ _ _ => False
abbrev Cl := Nat → List D → Hh → Kd → Ex → Prop

/-! ### tests of what is known -/
@[irreducible] def chk : Bool → Prop → Prop
  | true, P => P
  | false, _ => False
@[irreducible] def br : Bool → Prop → Prop → Prop
  | true, P, _ => P
  | false, _, R => R
theorem chk_t {P : Prop} : chk true P = P := by unfold chk; rfl
theorem chk_i {b : Bool} {P : Prop} (h : b = true) (p : P) : chk b P := by subst h; rw [chk_t]; exact p
theorem chk_e {b : Bool} {P : Prop} (h : chk b P) : b = true ∧ P := by
  cases b with
  | true => rw [chk_t] at h; exact ⟨rfl, h⟩
  | false => unfold chk at h; exact h.elim
theorem br_T {P R : Prop} : br true P R = P := by unfold br; rfl
theorem br_F {P R : Prop} : br false P R = R := by unfold br; rfl
theorem br_i {b : Bool} {P R : Prop} (h1 : b = true → P) (h2 : b = false → R) : br b P R := by
  cases b with
  | true => rw [br_T]; exact h1 rfl
  | false => rw [br_F]; exact h2 rfl
theorem br_t {b : Bool} {P R : Prop} (h : b = true) (p : P) : br b P R := by subst h; rw [br_T]; exact p
theorem br_f {b : Bool} {P R : Prop} (h : b = false) (p : R) : br b P R := by subst h; rw [br_F]; exact p
theorem br_e {b : Bool} {P R : Prop} (h : br b P R) : (b = true ∧ P) ∨ (b = false ∧ R) := by
  cases b with
  | true => rw [br_T] at h; exact .inl ⟨rfl, h⟩
  | false => rw [br_F] at h; exact .inr ⟨rfl, h⟩

/-! ### words -/
inductive BOp where | add | sub | mul | fdiv | mod | pow | shl | band
inductive COp where | eq | ne | lt | le | gt | ge | is | isnot | isin | notin
inductive Blt where | len | int | abs | max | min | tuple | list | sum | str | dict
inductive Tyn where | int | bool | str | tuple | list
  deriving DecidableEq
inductive Mth where | append | pop | popAt | extend | update | index | count | lindex

mutual
inductive ME where
  | non | bl (b : Bool) | int (i : Int) | str (x : Str)
  | var (i : Nat) | gl (i : Nat)
  | bin (op : BOp) (a b : ME) | neg (a : ME) | not (a : ME)
  | cmp (op : COp) (a b : ME) | chain (op op' : COp) (a b c : ME)
  | and (a b : ME) | or (a b : ME) | ife (t a b : ME)
  | call (f : Nat) (es : MEs)
  | blt (f : Blt) (es : MEs)
  | isi (a : ME) (ts : List Tyn)
  | meth (m : Mth) (o : ME) (es : MEs)
  | dlit (k x : ME) | ix (a i : ME) | sl (a : ME) (lo hi : MEo) | rev (a : ME) | dnew | dget (o k x : ME) | callv (i f g : Nat) (es : MEs) | callk (f : Nat) (es : MEs)
  | tup (es : MEs) | lst (es : MEs) | lset (a : ME)
  | lc (elt : ME) (t : MT) (it : MI) (c : MEo)
inductive MEs where
  | nil | cons (e : ME) (es : MEs)
inductive MEo where
  | none | some (e : ME)
inductive MT where
  | name (i : Nat) | tup (is : List Nat) | sub (a i : ME)
inductive MI where
  | seq (e : ME) | rng1 (a : ME) | rng2 (a b : ME)
end
/-- what an except suite gives back -/
inductive HA where
  | non | bl (b : Bool) | int (i : Int) | str (x : Str) | fld (n : Str)
inductive HE where
  | one (a : HA) | tup (as : List HA)
mutual
inductive MS where
  | expr (e : ME) | asg (t : MT) (e : ME) | aug (i : Nat) (op : BOp) (e : ME)
  | ret (e : ME) | retN | pass | brk | cnt
  | ife (t : ME) (a b : MB) | whl (t : ME) (b : MB) | forr (t : MT) (it : MI) (b : MB)
  | rse (x : Str) (fs : List Str) (es : MEs) | tr (b : MB) (y : Str) (ys zs : List Str) (i : Option Nat) (he : HE)
inductive MB where
  | nil | cons (s : MS) (b : MB)
end
structure MF where
  np : Nat
  ns : Nat
  body : MB

/-! ### operations -/
/-- the object at n -/
@[irreducible] def rdO (h : Hh) (n : Nat) (K : MO → Prop) : Prop := match h[n]? with
  | some o => K o
  | none => False
theorem rdO_i {h : Hh} {n : Nat} {o : MO} {K : MO → Prop} (e : h[n]? = some o) (k : K o) : rdO h n K := by unfold rdO; rw [e]; exact k
theorem rdO_e {h : Hh} {n : Nat} {K : MO → Prop} (w : rdO h n K) : ∃ o, h[n]? = some o ∧ K o := by
  unfold rdO at w
  split at w
  · rename_i o e
    exact ⟨o, e, w⟩
  · exact w.elim
def rdL (h : Hh) (n : Nat) (K : List D → Prop) : Prop := rdO h n fun o => match o with
  | .lst xs => K xs
  | _ => False
theorem rdL_e {h : Hh} {n : Nat} {K : List D → Prop} (w : rdL h n K) : ∃ xs, h[n]? = some (.lst xs) ∧ K xs := by
  obtain ⟨o, e, k⟩ := rdO_e w
  cases o with
  | lst xs => exact ⟨xs, e, k⟩
  | _ => exact k.elim
/-- what a sequence holds -/
def sq (h : Hh) (d : D) (K : List D → Prop) : Prop := match d with
  | .tup xs => K xs
  | .ref n => rdO h n fun o => match o with
    | .lst xs => K xs
    | .frz xs => K xs
    | _ => False
  | _ => False
/-- a new object; an object changed -/
@[irreducible] def new (o : MO) (h : Hh) (Q : Kd) : Prop := Q (.ref h.length) (h ++ [o])
@[irreducible] def put (h : Hh) (n : Nat) (o : MO) (P : Hh → Prop) : Prop := P (h.set n o)
theorem new_e {o : MO} {h : Hh} {Q : Kd} (w : new o h Q) : Q (.ref h.length) (h ++ [o]) := by unfold new at w; exact w
theorem put_e {h : Hh} {n : Nat} {o : MO} {P : Hh → Prop} (w : put h n o P) : P (h.set n o) := by unfold put at w; exact w
theorem new_b {o : MO} {h : Hh} {Q : Kd} (w : Q (.ref h.length) (h ++ [o])) : new o h Q := by unfold new; exact w
theorem put_b {h : Hh} {n : Nat} {o : MO} {P : Hh → Prop} (w : P (h.set n o)) : put h n o P := by unfold put; exact w
def lenOk (n : Nat) : Bool := decide (n ≤ sizeLine)
/-- what a tuple, a list holds -/
def seqOf (h : Hh) : D → Option (List D)
  | .tup xs => some xs
  | .ref n => match h[n]? with
    | some (.lst xs) => some xs
    | some (.frz xs) => some xs
    | _ => none
  | _ => none
theorem sq_i {h : Hh} {d : D} {xs : List D} {K : List D → Prop} (e : seqOf h d = some xs) (k : K xs) : sq h d K := by
  cases d with
  | tup ys => cases e; exact k
  | ref n =>
    simp only [seqOf] at e
    split at e
    · rename_i ys hn
      cases e
      exact rdO_i hn k
    · rename_i ys hn
      cases e
      exact rdO_i hn k
    · cases e
  | _ => cases e
theorem sq_e {h : Hh} {d : D} {K : List D → Prop} (w : sq h d K) : ∃ xs, seqOf h d = some xs ∧ K xs := by
  cases d with
  | tup xs => exact ⟨xs, rfl, w⟩
  | ref n =>
    obtain ⟨o, e, k⟩ := rdO_e (show rdO h n _ from w)
    cases o with
    | lst xs => exact ⟨xs, by simp only [seqOf, e], k⟩
    | frz xs => exact ⟨xs, by simp only [seqOf, e], k⟩
    | dic _ => exact k.elim
  | _ => exact w.elim
def natsEq : List Nat → List Nat → Bool
  | [], [] => true
  | x :: xs, y :: ys => Nat.beq x y && natsEq xs ys
  | _, _ => false
theorem natsEq_iff : ∀ {xs ys : List Nat}, natsEq xs ys = true ↔ xs = ys
  | [], [] => by simp [natsEq]
  | [], _ :: _ => by simp [natsEq]
  | _ :: _, [] => by simp [natsEq]
  | x :: xs, y :: ys => by
    have ih := @natsEq_iff xs ys
    simp only [natsEq, Bool.and_eq_true, List.cons.injEq, ih, Nat.beq_eq]
def strEq (a b : Str) : Bool := natsEq a.cps.toList b.cps.toList
theorem strEq_iff {a b : Str} : strEq a b = true ↔ a = b := by
  unfold strEq
  rw [natsEq_iff]
  constructor
  · intro h
    cases a with
    | mk x =>
      cases b with
      | mk y =>
        congr 1
        exact Array.toList_inj.mp h
  · rintro rfl
    rfl
theorem strEq_dec (a b : Str) : strEq a b = decide (a = b) := by
  rw [Bool.eq_iff_iff, strEq_iff]
  simp
theorem strEq_self (a : Str) : strEq a a = true := strEq_iff.mpr rfl
mutual
def D.flat : D → Bool
  | .tup xs => D.flats xs
  | .ref _ => false
  | .fn _ => false
  | _ => true
def D.flats : List D → Bool
  | [] => true
  | d :: ds => d.flat && D.flats ds
end
mutual
/-- == of values without objects -/
def eqD : D → D → Bool
  | .non, .non => true
  | .bl a, .bl b => a == b
  | .int a, .int b => a == b
  | .str a, .str b => strEq a b
  | .tup a, .tup b => eqDs a b
  | .int a, .bl b => a == (if b then 1 else 0)
  | .bl a, .int b => (if a then 1 else 0) == b
  | _, _ => false
def eqDs : List D → List D → Bool
  | [], [] => true
  | x :: xs, y :: ys => eqD x y && eqDs xs ys
  | _, _ => false
end
/-- dicts of texts -/
def lkD : List (Str × D) → Str → Option D
  | [], _ => none
  | (y, d) :: r, x => if strEq y x then some d else lkD r x
def putD (kvs : List (Str × D)) (x : Str) (d : D) : List (Str × D) :=
  if kvs.any (fun kv => strEq kv.1 x) then kvs.map (fun kv => if strEq kv.1 x then (kv.1, d) else kv) else kvs ++ [(x, d)]
def mergeD (kvs es : List (Str × D)) : List (Str × D) := es.foldl (fun a p => putD a p.1 p.2) kvs
@[irreducible] def gtD (kvs : List (Str × D)) (x : Str) (K : D → Prop) : Prop := match lkD kvs x with
  | some d => K d
  | none => False
theorem gtD_i {kvs : List (Str × D)} {x : Str} {d : D} {K : D → Prop} (e : lkD kvs x = some d) (w : K d) : gtD kvs x K := by unfold gtD; rw [e]; exact w
theorem gtD_e {kvs : List (Str × D)} {x : Str} {K : D → Prop} (w : gtD kvs x K) : ∃ d, lkD kvs x = some d ∧ K d := by
  unfold gtD at w
  split at w
  · rename_i d e
    exact ⟨d, e, w⟩
  · exact w.elim
def rdD (h : Hh) (n : Nat) (K : List (Str × D) → Prop) : Prop := rdO h n fun o => match o with
  | .dic kvs => K kvs
  | _ => False
theorem rdD_e {h : Hh} {n : Nat} {K : List (Str × D) → Prop} (w : rdD h n K) : ∃ kvs, h[n]? = some (.dic kvs) ∧ K kvs := by
  obtain ⟨o, e, k⟩ := rdO_e w
  cases o with
  | dic kvs => exact ⟨kvs, e, k⟩
  | _ => exact k.elim
mutual
/-- how deep a value is -/
def D.dep : D → Nat
  | .tup xs => D.deps xs + 1
  | _ => 0
def D.deps : List D → Nat
  | [] => 0
  | d :: ds => max d.dep (D.deps ds)
end
def opEq (x y : D) (Q : Bool → Prop) : Prop := match x, y with
  | .tup a, .tup b => chk (D.flats a && (D.flats b && decide (D.deps a ≤ 50))) (Q (eqDs a b))
  | .tup _, .non => Q false
  | .tup _, .bl _ => Q false
  | .tup _, .int _ => Q false
  | .tup _, .str _ => Q false
  | .non, .tup _ => Q false
  | .bl _, .tup _ => Q false
  | .int _, .tup _ => Q false
  | .str _, .tup _ => Q false
  | .non, .non => Q true
  | .non, .int _ => Q false
  | .int _, .non => Q false
  | .non, .bl _ => Q false
  | .bl _, .non => Q false
  | .non, .str _ => Q false
  | .str _, .non => Q false
  | .int a, .int b => Q (a == b)
  | .bl a, .bl b => Q (a == b)
  | .str a, .str b => Q (strEq a b)
  | .int _, .str _ => Q false
  | .str _, .int _ => Q false
  | .bl _, .str _ => Q false
  | .str _, .bl _ => Q false
  | _, _ => False
def inFlat (x : D) (xs : List D) : Bool := xs.any fun y => eqD y x
def isFl : D → Bool
  | .non => true | .bl _ => true | .int _ => true | .str _ => true | _ => false
/-- a text of one sign -/
def sg1 (c : Str) (K : Nat → Prop) : Prop := match c.cps.toList with
  | [k] => K k
  | _ => False
def sgIn (z : Str) (k : Nat) : Bool := z.cps.toList.any fun j => Nat.beq k j
/-- a text's signs -/
def sgs (z : Str) : List D := z.cps.toList.map fun c => .str ⟨#[c]⟩
def opCmp (op : COp) (x y : D) (h : Hh) (Q : Bool → Prop) : Prop := match op with
  | .eq => opEq x y Q
  | .ne => (match x, y with | .tup _, _ => False | _, .tup _ => False | _, _ => opEq x y fun b => Q (!b))
  | .lt => (match x, y with | .int i, .int j => Q (decide (i < j)) | _, _ => False)
  | .le => (match x, y with | .int i, .int j => Q (decide (i ≤ j)) | _, _ => False)
  | .gt => (match x, y with | .int i, .int j => Q (decide (j < i)) | _, _ => False)
  | .ge => (match x, y with | .int i, .int j => Q (decide (j ≤ i)) | _, _ => False)
  | .is => (match y with | .non => (match x with | .non => Q true | _ => Q false) | _ => False)
  | .isnot => (match y with | .non => (match x with | .non => Q false | _ => Q true) | _ => False)
  | .isin => (match y with
    | .str z => (match x with | .str c => sg1 c fun k => Q (sgIn z k) | _ => False)
    | _ => sq h y fun xs => chk (isFl x && xs.all isFl) (Q (inFlat x xs)))
  | .notin => (match y with
    | .str z => (match x with | .str c => sg1 c fun k => Q (!sgIn z k) | _ => False)
    | _ => sq h y fun xs => chk (isFl x && xs.all isFl) (Q (!inFlat x xs)))
def mulOk (i j : Int) : Bool := decide (i.natAbs < 2 ^ 64) || (decide (j.natAbs < 2 ^ 64) || (decide (i.natAbs < 2 ^ 9000) && decide (j.natAbs < 2 ^ 9000)))
def opBin (op : BOp) (x y : D) (h : Hh) (Q : Kd) : Prop := match op with
  | .add => (match x, y with
    | .int i, .int j => Q (.int (i + j)) h
    | .str a, .str b => chk (lenOk (a.length + b.length)) (Q (.str (a ++ b)) h)
    | .tup xs, .tup ys => chk (lenOk (xs.length + ys.length)) (Q (.tup (xs ++ ys)) h)
    | .ref n, .ref m => rdL h n fun xs => rdL h m fun ys => chk (lenOk (xs.length + ys.length)) (new (.lst (xs ++ ys)) h Q)
    | _, _ => False)
  | .sub => (match x, y with | .int i, .int j => Q (.int (i - j)) h | _, _ => False)
  | .mul => (match x, y with
    | .int i, .int j => chk (mulOk i j) (Q (.int (i * j)) h)
    | .ref n, .int k => rdL h n fun xs => chk (decide (k.natAbs < 2 ^ 62) && lenOk (xs.length * k.toNat)) (new (.lst (List.replicate k.toNat xs).flatten) h Q)
    | _, _ => False)
  | .fdiv => (match x, y with | .int i, .int j => chk (decide (0 < j) && decide (j.natAbs < 2 ^ 9000)) (Q (.int (i / j)) h) | _, _ => False)
  | .mod => (match x, y with | .int i, .int j => chk (decide (0 < j)) (Q (.int (i % j)) h) | _, _ => False)
  | .pow => (match x, y with | .int i, .int j => chk (decide (0 ≤ j) && decide (j ≤ 1000000) && decide (i.natAbs < 2 ^ 64)) (Q (.int (i ^ j.toNat)) h) | _, _ => False)
  | .shl => (match x, y with | .int i, .int j => chk (decide (0 ≤ j) && decide (j ≤ 1000000) && decide (i.natAbs < 2 ^ 64)) (Q (.int (i * 2 ^ j.toNat)) h) | _, _ => False)
  | .band => (match x, y with | .int i, .int j => Q (.int (Builtin.bitAnd i j)) h | _, _ => False)
/-- a op= b: no list -/
def opAug (op : BOp) (x y : D) (h : Hh) (Q : Kd) : Prop := match x with
  | .ref _ => False
  | .tup _ => False
  | _ => (match op with
    | .pow | .shl | .band => False
    | _ => opBin op x y h Q)
def truth (d : D) (h : Hh) (Q : Bool → Prop) : Prop := match d with
  | .bl b => Q b
  | .non => Q false
  | .int i => Q (i != 0)
  | .tup xs => Q (!xs.isEmpty)
  | .ref n => rdL h n fun xs => Q (!xs.isEmpty)
  | _ => False
/-- the place of an index -/
def ixAt (n : Nat) (i : Int) : Option Nat := if 0 ≤ i then (if i < n then some i.toNat else none) else if -(n : Int) ≤ i then some (i + n).toNat else none
def getAt (xs : List D) (i : Int) : Option D := (ixAt xs.length i).bind fun j => xs[j]?
@[irreducible] def itm (xs : List D) (k : Int) (K : D → Prop) : Prop := match getAt xs k with
  | some d => K d
  | none => False
theorem itm_i {xs : List D} {k : Int} {d : D} {K : D → Prop} (e : getAt xs k = some d) (w : K d) : itm xs k K := by unfold itm; rw [e]; exact w
theorem itm_e {xs : List D} {k : Int} {K : D → Prop} (w : itm xs k K) : ∃ d, getAt xs k = some d ∧ K d := by
  unfold itm at w
  split at w
  · rename_i d e
    exact ⟨d, e, w⟩
  · exact w.elim
/-- the sign at k of a text -/
@[irreducible] def sgn (z : Str) (k : Int) (K : Str → Prop) : Prop := match (ixAt z.length k).bind fun j => z.cps.toList[j]? with
  | some c => z.length ≤ sizeLine ∧ K ⟨#[c]⟩
  | none => False
theorem sgn_i {z : Str} {k : Int} {c : Nat} {K : Str → Prop} (e : ((ixAt z.length k).bind fun j => z.cps.toList[j]?) = some c) (l : z.length ≤ sizeLine) (w : K ⟨#[c]⟩) : sgn z k K := by unfold sgn; rw [e]; exact ⟨l, w⟩
theorem sgn_e {z : Str} {k : Int} {K : Str → Prop} (w : sgn z k K) : ∃ c, ((ixAt z.length k).bind fun j => z.cps.toList[j]?) = some c ∧ z.length ≤ sizeLine ∧ K ⟨#[c]⟩ := by
  unfold sgn at w
  split at w
  · rename_i c e
    exact ⟨c, e, w.1, w.2⟩
  · exact w.elim
def opIx (x i : D) (h : Hh) (Q : Kd) : Prop := match i with
  | .int k => (match x with
    | .str z => sgn z k fun c => Q (.str c) h
    | _ => sq h x fun xs => itm xs k fun d => Q d h)
  | .str z => (match x with
    | .ref n => rdD h n fun kvs => gtD kvs z fun d => Q d h
    | _ => False)
  | _ => False
/-- a list the other way round -/
def opRev (x : D) (h : Hh) (Q : Kd) : Prop := match x with
  | .ref _ => sq h x fun xs => new (.lst xs.reverse) h Q
  | .tup xs => Q (.tup xs.reverse) h
  | _ => False
/-- the part of a list from lo to hi -/
def cutD (xs : List D) (lo hi : Option Int) : List D := (xs.drop (HT.sIx xs.length 0 lo)).take (HT.sIx xs.length xs.length hi - HT.sIx xs.length 0 lo)
def opSl (x : D) (l u : Option Int) (h : Hh) (Q : Kd) : Prop := match x with
  | .ref _ => sq h x fun xs => new (.lst (cutD xs l u)) h Q
  | .str z => chk (lenOk z.length) (Q (.str (cutS z l u)) h)
  | .tup xs => chk (!(decide (HT.sIx xs.length 0 l = 0) && decide (HT.sIx xs.length xs.length u = xs.length))) (Q (.tup (cutD xs l u)) h)
  | _ => False
def intsOf : List D → Option (List Int)
  | [] => some []
  | .int i :: r => (intsOf r).map (i :: ·)
  | _ => none
@[irreducible] def iLst (ys : List D) (K : List Int → Prop) : Prop := match intsOf ys with
  | some ms => K ms
  | none => False
theorem iLst_i {ys : List D} {ms : List Int} {K : List Int → Prop} (e : intsOf ys = some ms) (w : K ms) : iLst ys K := by unfold iLst; rw [e]; exact w
theorem iLst_e {ys : List D} {K : List Int → Prop} (w : iLst ys K) : ∃ ms, intsOf ys = some ms ∧ K ms := by
  unfold iLst at w
  split at w
  · rename_i d e
    exact ⟨d, e, w⟩
  · exact w.elim
def maxI : Int → List Int → Int
  | m, [] => m
  | m, x :: xs => maxI (if x > m then x else m) xs
def minI : Int → List Int → Int
  | m, [] => m
  | m, x :: xs => minI (if x < m then x else m) xs
/-- texts, each but once -/
def stp (acc : List Str) (y : Str) : List Str := if acc.any (fun z => strEq z y) then acc else acc ++ [y]
def nub (ys : List Str) : List Str := ys.foldl stp []
/-- how many texts a set of them has -/
@[irreducible] def lsetN (xs : List D) (K : Nat → Prop) : Prop := ∃ ys : List Str, xs = ys.map .str ∧ ys.length < 4000 ∧ K (nub ys).length
theorem lsetN_i {xs : List D} {K : Nat → Prop} (ys : List Str) (e : xs = ys.map .str) (l : ys.length < 4000) (w : K (nub ys).length) : lsetN xs K := by unfold lsetN; exact ⟨ys, e, l, w⟩
theorem lsetN_e {xs : List D} {K : Nat → Prop} (w : lsetN xs K) : ∃ ys : List Str, xs = ys.map .str ∧ ys.length < 4000 ∧ K (nub ys).length := by unfold lsetN at w; exact w
/-- pairs of a text and a value -/
@[irreducible] def prsD (xs : List D) (K : List (Str × D) → Prop) : Prop := ∃ kvs : List (Str × D), xs = kvs.map (fun p => .tup [.str p.1, p.2]) ∧ kvs.length ≤ sizeLine ∧ K kvs
theorem prsD_i {xs : List D} {K : List (Str × D) → Prop} (kvs : List (Str × D)) (e : xs = kvs.map (fun p => .tup [.str p.1, p.2])) (l : kvs.length ≤ sizeLine) (w : K kvs) : prsD xs K := by unfold prsD; exact ⟨kvs, e, l, w⟩
theorem prsD_e {xs : List D} {K : List (Str × D) → Prop} (w : prsD xs K) : ∃ kvs : List (Str × D), xs = kvs.map (fun p => .tup [.str p.1, p.2]) ∧ kvs.length ≤ sizeLine ∧ K kvs := by unfold prsD at w; exact w
def opBlt (f : Blt) (xs : List D) (h : Hh) (Q : Kd) : Prop := match f, xs with
  | .len, [x] => (match x with
    | .str s => chk (lenOk s.length) (Q (.int s.length) h)
    | _ => sq h x fun ys => Q (.int ys.length) h)
  | .int, [.int i] => Q (.int i) h
  | .str, [.int i] => chk (decide (i.natAbs < 2 ^ 100)) (Q (.str (toString i)) h)
  | .int, [.bl b] => Q (.int (if b then 1 else 0)) h
  | .abs, [.int i] => Q (.int (if i < 0 then -i else i)) h
  | .max, [.int i, .int j] => Q (.int (if j > i then j else i)) h
  | .min, [.int i, .int j] => Q (.int (if j < i then j else i)) h
  | .max, [.int i, .int j, .int k] => Q (.int (if k > (if j > i then j else i) then k else (if j > i then j else i))) h
  | .min, [.int i, .int j, .int k] => Q (.int (if k < (if j < i then j else i) then k else (if j < i then j else i))) h
  | .max, [.ref n] => rdL h n fun ys => iLst ys fun ms => (match ms with
    | m :: ms => Q (.int (maxI m ms)) h
    | [] => False)
  | .min, [.ref n] => rdL h n fun ys => iLst ys fun ms => (match ms with
    | m :: ms => Q (.int (minI m ms)) h
    | [] => False)
  | .sum, [.ref n] => rdL h n fun ys => iLst ys fun ms => Q (.int ms.sum) h
  | .tuple, [x] => sq h x fun ys => Q (.tup ys) h
  | .list, [x] => sq h x fun ys => new (.lst ys) h Q
  | .dict, [.ref n] => rdD h n fun kvs => new (.dic kvs) h Q
  | .dict, [.tup ys] => prsD ys fun kvs => new (.dic (mergeD [] kvs)) h Q
  | _, _ => False
def tyOf : D → Option Tyn
  | .bl _ => some .bool
  | .int _ => some .int
  | .str _ => some .str
  | .tup _ => some .tuple
  | _ => none
def isTy (t u : Tyn) : Bool := decide (t = u) || (decide (t = .bool) && decide (u = .int))
def opIsi (x : D) (ts : List Tyn) (h : Hh) (Q : Kd) : Prop := match x with
  | .non => Q (.bl false) h
  | .ref n => rdL h n fun _ => Q (.bl (ts.any fun u => isTy .list u)) h
  | _ => (match tyOf x with
    | some t => Q (.bl (ts.any fun u => isTy t u)) h
    | none => False)
/-- the first place of a text among texts -/
@[irreducible] def idx (xs : List D) (z : Str) (K : Nat → Prop) : Prop := ∃ (ys : List Str) (j : Nat), xs = ys.map .str ∧ ys[j]? = some z ∧ (∀ m, m < j → ys[m]? ≠ some z) ∧ K j
theorem idx_i {xs : List D} {z : Str} {K : Nat → Prop} (ys : List Str) (j : Nat) (e : xs = ys.map .str) (h : ys[j]? = some z) (n : ∀ m, m < j → ys[m]? ≠ some z) (w : K j) : idx xs z K := by unfold idx; exact ⟨ys, j, e, h, n, w⟩
theorem idx_e {xs : List D} {z : Str} {K : Nat → Prop} (w : idx xs z K) : ∃ (ys : List Str) (j : Nat), xs = ys.map .str ∧ ys[j]? = some z ∧ (∀ m, m < j → ys[m]? ≠ some z) ∧ K j := by unfold idx at w; exact w
/-- how often a text stands among texts -/
@[irreducible] def cnt (xs : List D) (z : Str) (K : Nat → Prop) : Prop := ∃ ys : List Str, xs = ys.map .str ∧ K (ys.countP (· == z))
theorem cnt_i {xs : List D} {z : Str} {K : Nat → Prop} (ys : List Str) (e : xs = ys.map .str) (w : K (ys.countP (· == z))) : cnt xs z K := by unfold cnt; exact ⟨ys, e, w⟩
theorem cnt_e {xs : List D} {z : Str} {K : Nat → Prop} (w : cnt xs z K) : ∃ ys : List Str, xs = ys.map .str ∧ K (ys.countP (· == z)) := by unfold cnt at w; exact w
def opMethL (m : Mth) (n : Nat) (xs : List D) (h : Hh) (Q : Kd) : Prop := rdL h n fun ys => (match m, xs with
    | .append, [d] => chk (decide (ys.length < sizeLine)) (put h n (.lst (ys ++ [d])) fun h' => Q .non h')
    | .pop, [] => itm ys (-1) fun d => put h n (.lst ys.dropLast) fun h' => Q d h'
    | .popAt, [.int i] => chk (decide (i.natAbs < 2 ^ 62)) (itm ys i fun d => put h n (.lst (ys.eraseIdx ((ixAt ys.length i).getD 0))) fun h' => Q d h')
    | .extend, [x] => (match x with
      | .ref k => rdL h k fun zs => chk (lenOk (ys.length + zs.length)) (put h n (.lst (ys ++ zs)) fun h' => Q .non h')
      | .tup zs => chk (lenOk (ys.length + zs.length)) (put h n (.lst (ys ++ zs)) fun h' => Q .non h')
      | _ => False)
    | .count, [x] => (match x with
      | .str z => cnt ys z fun j => Q (.int j) h
      | _ => False)
    | .lindex, [x] => (match x with
      | .str z => idx ys z fun j => Q (.int j) h
      | _ => False)
    | _, _ => False)
def opMeth (m : Mth) (o : D) (xs : List D) (h : Hh) (Q : Kd) : Prop := match m with
  | .update => (match o, xs with
    | .ref n, [.ref k] => rdD h n fun kvs => rdD h k fun es => chk (decide (n ≠ k) && lenOk (kvs.length + es.length)) (put h n (.dic (mergeD kvs es)) fun h' => Q .non h')
    | _, _ => False)
  | .index => (match o, xs with
    | .tup ys, [.str z] => idx ys z fun j => Q (.int j) h
    | _, _ => False)
  | m => (match o with
    | .ref n => opMethL m n xs h Q
    | _ => False)
/-- is the receiver of the method's type? -/
def rcv (m : Mth) (x : D) (h : Hh) (P : Prop) : Prop := match m with
  | .update => (match x with
    | .ref n => rdD h n fun _ => P
    | _ => False)
  | .index => (match x with
    | .tup _ => P
    | _ => False)
  | _ => (match x with
    | .ref n => rdL h n fun _ => P
    | _ => False)
def opSet (o i v : D) (h : Hh) (Q : Hh → Prop) : Prop := match o, i with
  | .ref n, .int k => rdL h n fun ys => itm ys k fun _ => put h n (.lst (ys.set ((ixAt ys.length k).getD 0) v)) Q
  | .ref n, .str z => rdD h n fun kvs => chk (decide (kvs.length < sizeLine)) (put h n (.dic (putD kvs z v)) Q)
  | _, _ => False

/-! ### slots -/
def look (σ : Sg) (i : Nat) (Q : D → Prop) : Prop := match σ[i]? with
  | some (some d) => Q d
  | _ => False
def puts : List Nat → List D → Sg → (Sg → Prop) → Prop
  | [], [], σ, Q => Q σ
  | i :: is, d :: ds, σ, Q => puts is ds (σ.set i (some d)) Q
  | _, _, _, _ => False
def wipes (σ : Sg) : List Nat → Sg
  | [] => σ
  | v :: vs => (wipes σ vs).set v none
def range : Nat → Int → Nat → List D
  | 0, _, _ => []
  | n + 1, lo, k => .int (lo + k) :: range n lo (k + 1)
/-- what a loop walks: items that stand, or a list as it stands at each turn -/
inductive MW where
  | snap (xs : List D) | live (n : Nat)
def walkOf (h : Hh) (d : D) (Q : MW → Prop) : Prop := match d with
  | .tup xs => Q (.snap xs)
  | .str z => Q (.snap (sgs z))
  | .ref n => rdO h n fun o => (match o with
    | .lst _ => Q (.live n)
    | .frz xs => Q (.snap xs)
    | _ => False)
  | _ => False
structure Es where
  nx : Sg → Hh → Prop
  rt : Kd
  bk : Sg → Hh → Prop
  ct : Sg → Hh → Prop
@[irreducible] def fuel : Nat := 1000000000
/-- the ends behind a word: R stands but once in them, so the goals stay small -/
def seqE (P : Es → Sg → Hh → Prop) (R : Es) : Es := { nx := P R, rt := R.rt, bk := R.bk, ct := R.ct }
def lpE (K : Sg → Hh → Prop) (R : Es) : Es := { nx := K, rt := R.rt, bk := R.nx, ct := K }

/-- a loop's turns -/
def loopS (t : D → Sg → Hh → (Sg → Hh → Prop) → Prop) (b : Es → Sg → Hh → Prop) (R : Es) : List D → Sg → Hh → Prop
  | [], σ, h => R.nx σ h
  | x :: xs, σ, h => t x σ h fun σ1 h1 => b (lpE (loopS t b R xs) R) σ1 h1
def loopL (t : D → Sg → Hh → (Sg → Hh → Prop) → Prop) (b : Es → Sg → Hh → Prop) (R : Es) (n : Nat) : Nat → Nat → Sg → Hh → Prop
  | 0, _, _, _ => False
  | k + 1, i, σ, h => match h[n]? with
    | some (.lst xs) => (match xs[i]? with
      | none => R.nx σ h
      | some x => t x σ h fun σ1 h1 => b (lpE (loopL t b R n k (i + 1)) R) σ1 h1)
    | _ => False
def loopW (c : Sg → Hh → (Bool → Hh → Prop) → Prop) (b : Es → Sg → Hh → Prop) (R : Es) : Nat → Sg → Hh → Prop
  | 0, _, _ => False
  | k + 1, σ, h => c σ h fun d h1 => br d (b (lpE (loopW c b R k) R) σ h1) (R.nx σ h1)
/-- a comprehension's turns: the new list at p -/
def compS (t : D → Sg → Hh → (Sg → Hh → Prop) → Prop) (c : Sg → Hh → (Bool → Hh → Prop) → Prop) (e : Sg → Hh → Kd → Prop) (σ0 : Sg) (p : Nat) (Q : Kd) : List D → Hh → Prop
  | [], h => Q (.ref p) h
  | x :: xs, h => t x σ0 h fun σ1 h1 => c σ1 h1 fun d h2 => br d
      (e σ1 h2 fun y h3 => rdL h3 p fun acc => chk (decide (acc.length < sizeLine)) (put h3 p (.lst (acc ++ [y])) fun h4 => compS t c e σ0 p Q xs h4))
      (compS t c e σ0 p Q xs h2)
def compL (t : D → Sg → Hh → (Sg → Hh → Prop) → Prop) (c : Sg → Hh → (Bool → Hh → Prop) → Prop) (e : Sg → Hh → Kd → Prop) (σ0 : Sg) (p : Nat) (Q : Kd) (n : Nat) : Nat → Nat → Hh → Prop
  | 0, _, _ => False
  | k + 1, i, h => match h[n]? with
    | some (.lst xs) => (match xs[i]? with
      | none => Q (.ref p) h
      | some x => t x σ0 h fun σ1 h1 => c σ1 h1 fun d h2 => br d
        (e σ1 h2 fun y h3 => rdL h3 p fun acc => chk (decide (acc.length < sizeLine)) (put h3 p (.lst (acc ++ [y])) fun h4 => compL t c e σ0 p Q n k (i + 1) h4))
        (compL t c e σ0 p Q n k (i + 1) h2))
    | _ => False
def slotsOf : MT → List Nat
  | .name i => [i]
  | .tup is => is
  | .sub _ _ => []

/-- what an except suite gives back, the error's fields known -/
def HA.val (kvs : List (Str × D)) : HA → Option D
  | .non => some .non
  | .bl b => some (.bl b)
  | .int i => some (.int i)
  | .str x => some (.str x)
  | .fld n => lkD kvs n
def HA.vals (kvs : List (Str × D)) : List HA → Option (List D)
  | [] => some []
  | a :: as => match a.val kvs with
    | some d => (match HA.vals kvs as with
      | some ds => some (d :: ds)
      | none => none)
    | none => none
def HE.val (kvs : List (Str × D)) : HE → Option D
  | .one a => a.val kvs
  | .tup as => match HA.vals kvs as with
    | some ds => if lenOk ds.length then some (.tup ds) else none
    | none => none
def hx (o : Option D) (K : D → Prop) : Prop := match o with
  | some d => K d
  | none => False
/-- the errors that a try takes; the others fly on -/
def exT (ys zs : List Str) (he : HE) (R : Es) (X : Ex) : Ex := fun x kvs h =>
  if ys.any (fun y => strEq x y) then hx (he.val kvs) fun d => R.rt d h else if zs.any (fun z => strEq x z) then X x kvs h else False
/-! ### the run -/
section
variable (gls : List D) (C : Cl)
mutual
def wE (X : Ex) : ME → Sg → Hh → Kd → Prop
  | .non, _, h, Q => Q .non h
  | .bl b, _, h, Q => Q (.bl b) h
  | .int i, _, h, Q => Q (.int i) h
  | .str x, _, h, Q => Q (.str x) h
  | .var i, σ, h, Q => look σ i fun d => Q d h
  | .gl i, _, h, Q => (match gls[i]? with
    | some d => Q d h
    | none => False)
  | .bin op a b, σ, h, Q => wE X a σ h fun x h1 => wE X b σ h1 fun y h2 => opBin op x y h2 Q
  | .neg a, σ, h, Q => wE X a σ h fun x h1 => (match x with | .int i => Q (.int (-i)) h1 | _ => False)
  | .not a, σ, h, Q => wE X a σ h fun x h1 => truth x h1 fun b => Q (.bl (!b)) h1
  | .cmp op a b, σ, h, Q => wE X a σ h fun x h1 => wE X b σ h1 fun y h2 => opCmp op x y h2 fun b => Q (.bl b) h2
  | .chain op op' a b c, σ, h, Q => wE X a σ h fun x h1 => wE X b σ h1 fun y h2 => opCmp op x y h2 fun r => br r
      (wE X c σ h2 fun z h3 => opCmp op' y z h3 fun r' => Q (.bl r') h3) (Q (.bl false) h2)
  | .and a b, σ, h, Q => wE X a σ h fun x h1 => (match x with | .bl r => br r (wE X b σ h1 Q) (Q (.bl false) h1) | _ => False)
  | .or a b, σ, h, Q => wE X a σ h fun x h1 => (match x with | .bl r => br r (Q (.bl true) h1) (wE X b σ h1 Q) | _ => False)
  | .ife t a b, σ, h, Q => wT X t σ h fun r h1 => br r (wE X a σ h1 Q) (wE X b σ h1 Q)
  | .call f es, σ, h, Q => wEs X es σ h fun ds h1 => C f ds h1 Q X
  | .blt f es, σ, h, Q => wEs X es σ h fun ds h1 => opBlt f ds h1 Q
  | .isi a ts, σ, h, Q => wE X a σ h fun x h1 => opIsi x ts h1 Q
  | .meth m o es, σ, h, Q => wE X o σ h fun x h1 => rcv m x h1 (wEs X es σ h1 fun ds h2 => opMeth m x ds h2 Q)
  | .ix a i, σ, h, Q => wE X a σ h fun x h1 => wE X i σ h1 fun y h2 => opIx x y h2 Q
  | .rev a, σ, h, Q => wE X a σ h fun x h1 => opRev x h1 Q
  | .lset a, σ, h, Q => wE X a σ h fun x h1 => (match x with
    | .ref n => rdL h1 n fun ys => lsetN ys fun j => Q (.int j) h1
    | _ => False)
  | .dnew, _, h, Q => new (.dic []) h Q
  | .dlit k x, σ, h, Q => new (.dic []) h fun r h0 => (match r with
    | .ref p => wE X k σ h0 fun y h1 => wE X x σ h1 fun z h2 => (match y with
      | .str s => rdD h2 p fun kvs => chk kvs.isEmpty (put h2 p (.dic [(s, z)]) fun h3 => Q (.ref p) h3)
      | _ => False)
    | _ => False)
  | .dget o k x, σ, h, Q => wE X o σ h fun d h1 => (match d with
    | .ref n => rdD h1 n fun _ => wE X k σ h1 fun y h2 => wE X x σ h2 fun z h3 => (match y with
      | .str s => rdD h3 n fun kvs => Q ((lkD kvs s).getD z) h3
      | _ => False)
    | _ => False)
  | .callk f es, σ, h, Q => wEs X es σ h fun ds h1 => C f ds h1 Q X
  | .callv i f g es, σ, h, Q => look σ i fun d => (match d with
    | .fn a => chk (match gls[g]? with | some (.fn b) => decide (a = b) | _ => false) (wEs X es σ h fun ds h1 => C f ds h1 Q EX0)
    | _ => False)
  | .sl a lo hi, σ, h, Q => wE X a σ h fun x h1 => wEo X lo σ h1 fun l h2 => wEo X hi σ h2 fun u h3 => opSl x l u h3 Q
  | .tup es, σ, h, Q => wEs X es σ h fun ds h1 => chk (lenOk ds.length) (Q (.tup ds) h1)
  | .lst es, σ, h, Q => wEs X es σ h fun ds h1 => chk (lenOk ds.length) (new (.lst ds) h1 Q)
  | .lc elt t it c, σ, h, Q => wI X it σ h fun w h1 => new (.lst []) h1 fun r h2 => (match r with
      | .ref p => (match w with
        | .snap xs => compS (wG EX0 t) (wC EX0 c) (wE EX0 elt) (wipes σ (slotsOf t)) p Q xs h2
        | .live n => compL (wG EX0 t) (wC EX0 c) (wE EX0 elt) (wipes σ (slotsOf t)) p Q n fuel 0 h2)
      | _ => False)
/-- as a test -/
def wT (X : Ex) : ME → Sg → Hh → (Bool → Hh → Prop) → Prop
  | .not a, σ, h, Q => wT X a σ h fun b h1 => Q (!b) h1
  | .and a b, σ, h, Q => wT X a σ h fun r h1 => br r (wT X b σ h1 Q) (Q false h1)
  | .or a b, σ, h, Q => wT X a σ h fun r h1 => br r (Q true h1) (wT X b σ h1 Q)
  | .cmp op a b, σ, h, Q => wE X a σ h fun x h1 => wE X b σ h1 fun y h2 => opCmp op x y h2 fun b => Q b h2
  | .chain op op' a b c, σ, h, Q => wE X a σ h fun x h1 => wE X b σ h1 fun y h2 => opCmp op x y h2 fun r => br r
      (wE X c σ h2 fun z h3 => opCmp op' y z h3 fun r' => Q r' h3) (Q false h2)
  | .ife _ _ _, _, _, _ => False
  | .bl b, _, h, Q => Q b h
  | .var i, σ, h, Q => look σ i fun d => truth d h fun b => Q b h
  | .call f es, σ, h, Q => wEs X es σ h fun ds h1 => C f ds h1 (fun d h2 => truth d h2 fun b => Q b h2) X
  | .callk f es, σ, h, Q => wEs X es σ h fun ds h1 => C f ds h1 (fun d h2 => truth d h2 fun b => Q b h2) X
  | .isi a ts, σ, h, Q => wE X a σ h fun x h1 => opIsi x ts h1 fun d h2 => truth d h2 fun b => Q b h2
  | .ix a i, σ, h, Q => wE X a σ h fun x h1 => wE X i σ h1 fun y h2 => opIx x y h2 fun d h3 => truth d h3 fun b => Q b h3
  | _, _, _, _ => False
def wEs (X : Ex) : MEs → Sg → Hh → (List D → Hh → Prop) → Prop
  | .nil, _, h, Q => Q [] h
  | .cons e es, σ, h, Q => wE X e σ h fun x h1 => wEs X es σ h1 fun xs h2 => Q (x :: xs) h2
def wEo (X : Ex) : MEo → Sg → Hh → (Option Int → Hh → Prop) → Prop
  | .none, _, h, Q => Q none h
  | .some e, σ, h, Q => wE X e σ h fun x h1 => (match x with | .int i => Q (some i) h1 | _ => False)
def wC (X : Ex) : MEo → Sg → Hh → (Bool → Hh → Prop) → Prop
  | .none, _, h, Q => Q true h
  | .some e, σ, h, Q => wT X e σ h Q
def wG (X : Ex) : MT → D → Sg → Hh → (Sg → Hh → Prop) → Prop
  | .name i, d, σ, h, Q => Q (σ.set i (some d)) h
  | .tup is, d, σ, h, Q => (match d with
    | .tup ds => puts is ds σ fun σ1 => Q σ1 h
    | _ => False)
  | .sub a i, d, σ, h, Q => wE X a σ h fun o h1 => wE X i σ h1 fun k h2 => opSet o k d h2 fun h3 => Q σ h3
def wI (X : Ex) : MI → Sg → Hh → (MW → Hh → Prop) → Prop
  | .seq e, σ, h, Q => wE X e σ h fun d h1 => walkOf h1 d fun w => Q w h1
  | .rng1 a, σ, h, Q => wE X a σ h fun d h1 => (match d with
    | .int n => chk (decide (n.natAbs < 2 ^ 62)) (Q (.snap (range n.toNat 0 0)) h1)
    | _ => False)
  | .rng2 a b, σ, h, Q => wE X a σ h fun d h1 => wE X b σ h1 fun e h2 => (match d, e with
    | .int lo, .int hi => chk (decide (lo.natAbs < 2 ^ 62) && decide (hi.natAbs < 2 ^ 62)) (Q (.snap (range (hi - lo).toNat lo 0)) h2)
    | _, _ => False)
end
mutual
def wS (X : Ex) : MS → Es → Sg → Hh → Prop
  | .expr e, R, σ, h => wE gls C X e σ h fun _ h1 => R.nx σ h1
  | .asg t e, R, σ, h => wE gls C X e σ h fun d h1 => wG gls C X t d σ h1 R.nx
  | .aug i op e, R, σ, h => look σ i fun d => wE gls C X e σ h fun y h1 => opAug op d y h1 fun z h2 => R.nx (σ.set i (some z)) h2
  | .ret e, R, σ, h => wE gls C X e σ h R.rt
  | .retN, R, _, h => R.rt .non h
  | .pass, R, σ, h => R.nx σ h
  | .brk, R, σ, h => R.bk σ h
  | .cnt, R, σ, h => R.ct σ h
  | .ife t a b, R, σ, h => wT gls C X t σ h fun r h1 => br r (wB X a R σ h1) (wB X b R σ h1)
  | .whl t b, R, σ, h => loopW (wT gls C X t) (wB X b) R fuel σ h
  | .forr t it b, R, σ, h => wI gls C X it σ h fun w h1 => (match w with
    | .snap xs => loopS (wG gls C X t) (wB X b) R xs σ h1
    | .live n => loopL (wG gls C X t) (wB X b) R n fuel 0 σ h1)
  | .rse x fs es, R, σ, h => wEs gls C X es σ h fun ds h1 => chk (decide (ds.length = fs.length)) (X x (fs.zip ds).reverse h1)
  | .tr b y ys zs i he, R, σ, h => wB (exT ys zs he R X) b R σ h
def wB (X : Ex) : MB → Es → Sg → Hh → Prop
  | .nil, R, σ, h => R.nx σ h
  | .cons s b, R, σ, h => wS X s (seqE (wB X b) R) σ h
end
end
/-- the run of a def: n calls deep at most -/
def run (gls : List D) (tb : List MF) : Nat → Cl
  | 0, _, _, _, _, _ => False
  | n + 1, f, ds, h, Q, X => match tb[f]? with
    | some m => chk (decide (ds.length = m.np)) (wB gls (run gls tb n) X m.body
        { nx := fun _ h' => Q .non h', rt := Q, bk := fun _ _ => False, ct := fun _ _ => False } (ds.map some ++ List.replicate (m.ns - m.np) none) h)
    | none => False
end Mi

set_option Elab.async false
set_option linter.all false
set_option maxRecDepth 100000
/-! MiS: len(set(xs)) of texts, dict(t) of a tuple of pairs, t.index(x) of any tuple. -/
namespace Mi
open PySem PySem.Spec PyProof.Rows L2
theorem nub_len (ys : List Str) : ∀ acc : List Str, (ys.foldl stp acc).length ≤ acc.length + ys.length := by
  induction ys with
  | nil => intro acc; simp
  | cons y ys ih =>
    intro acc
    have h := ih (stp acc y)
    have : (stp acc y).length ≤ acc.length + 1 := by
      unfold stp
      split <;> simp
    simp only [List.foldl_cons, List.length_cons]
    omega
/-- what is in hand after i texts -/
def met (xs : List Str) (i : Nat) : List Str := nub (xs.take i)
theorem met_next {xs : List Str} {i : Nat} {x : Str} (h : xs[i]? = some x) : met xs (i + 1) = stp (met xs i) x := by
  unfold met nub
  rw [List.take_add_one, h]
  simp [List.foldl_append]
theorem met_small (xs : List Str) (i : Nat) : (met xs i).length ≤ i := by
  have := nub_len (xs.take i) []
  simp only [List.length_nil, Nat.zero_add, List.length_take] at this
  unfold met nub
  omega
theorem anyEq (acc : List Str) (y : Str) : (acc.any fun z => strEq z y) = acc.any (· == y) := by
  congr 1
  funext z
  rw [strEq_dec]
  rfl
theorem stp_any (acc : List Str) (y k : Str) : (acc.any (· == k) || decide (k = y)) = (stp acc y).any (· == k) := by
  unfold stp
  rw [anyEq]
  split
  · rename_i h
    by_cases e : k = y
    · subst e; simp [h]
    · simp [e]
  · by_cases e : k = y
    · subst e; simp
    · have : (y == k) = false := by simpa [beq_iff_eq] using fun h : y = k => e h.symm
      simp [e, this]
theorem stp_len (acc : List Str) (y : Str) : (if acc.any (· == y) = true then acc.length else acc.length + 1) = (stp acc y).length := by
  unfold stp
  rw [anyEq]
  split <;> simp
/-- the table holds just the texts of l -/
def Hold (P : Program) (w : World) (h : Heap) (a : Addr) (l : List Str) : Prop := h.SetOf (PySem.strKind P w) a (fun k => l.any (· == k)) l.length
theorem Hold.at' {P : Program} {w : World} {h h' : Heap} {a : Addr} {l : List Str} (S : Hold P w h a l) (k : ∀ o, h.get? a = some o → h'.get? a = some o) : Hold P w h' a l := by
  obtain ⟨o, es, ep, tb, ho, r⟩ := S
  exact ⟨o, es, ep, tb, k o ho, r⟩
theorem Hold.put {P : Program} {w : World} {h : Heap} {a : Addr} {l : List Str} {y : Str} (S : h.SetOf (PySem.strKind P w) a (fun k => l.any (· == k) || decide (k = y)) (if l.any (· == y) = true then l.length else l.length + 1)) : Hold P w h a (stp l y) := by
  unfold Hold
  rw [stp_len] at S
  have e : (fun k => l.any (· == k) || decide (k = y)) = fun k => (stp l y).any (· == k) := funext fun k => stp_any l y k
  rw [e] at S
  exact S

section
variable {P : Program} {w : World} {A : Around} {R : Result → Shared → Prop} {I : Addr} {fp wr : List Addr} {G : Array GenState → Array GenState → Prop} {n : Nat} {Pv : Nat → Value → Prop} {St : Nat → Shared → Prop}
theorem fill (W : WalksS P w A.in1 I fp wr G n Pv St) {a : Addr} (off : a ∉ fp) (xs : List Str) (few : n + 1 < scanBound)
    (val : ∀ i v, Pv i v → ∃ x u, xs[i]? = some x ∧ v = .str x u) : ∀ (m i : Nat) (s : Shared), n - i = m → i ≤ n → St i s → Hold P w s.heap a (met xs i) →
      (∀ s1, Moved (a :: wr) G s s1 → Hold P w s1.heap a (met xs n) → R (.ok (.ret .none)) s1) → codeAny (model P w) A (.builtin "set.update.loop" ⟨[.ref a, .ref I], []⟩) R s := by
  have aw : a ∉ wr := fun z => off (W.sub _ z)
  intro m
  induction m with
  | zero =>
    intro i s hm hi st S K
    obtain rfl : i = n := by omega
    refine codeAny_builtin PyProof.Rows.F.entry_set_update_loop (by
      rw [Around.under_plainId PyProof.Rows.F.plain_set_update_loop _]
      exact wpAny_bind (m := pyNext (.ref I)) (W.done s _ _ st fun s1 mv => wpAny_pure (K s1 (mv.mono fun b z => .tail _ z) (S.at' fun o e => mv.heap a o aw e))))
  | succ m ih =>
    intro i s hm hi st S K
    have lt : i < n := by omega
    refine codeAny_builtin PyProof.Rows.F.entry_set_update_loop ?_
    rw [Around.under_plainId PyProof.Rows.F.plain_set_update_loop _]
    refine wpAny_bind (m := pyNext (.ref I)) (W.item i s _ _ lt st fun v s1 pv st1 mv => ?_)
    obtain ⟨x, u, hx, rfl⟩ := val i v pv
    have S1 : Hold P w s1.heap a (met xs i) := S.at' fun o e => mv.heap a o aw e
    have kx : (PySem.strKind P w).is x (.str x u) = true := PySem.strKind_is _ _ _ _
    refine wpAny_bind (m := holding [Value.str x u] (setAdd a (.str x u))) (wpAny_holding (show wpAny _ _ (setAdd a (.str x u)) _ _ _ from wpAny_holding ?_))
    refine wpAny_bind ((PySem.strKind P w).pyHash kx ?_)
    have room : (met xs i).length + 1 < scanBound := by have := met_small xs i; omega
    refine wpAny_setAddHashed_of (s := ⟨s1.heap, s1.gens, s1.drawn, s1.toks + 1, s1.os⟩) kx rfl S1 room fun h2 same S2 => wpAny_pure ⟨plainId_quiet PyProof.Rows.F.plain_set_update_loop _, ?_⟩
    have S3 : Hold P w h2 a (met xs (i + 1)) := by rw [met_next hx]; exact Hold.put S2
    refine ih (i + 1) _ (by omega) lt (W.frame _ s1 _ _ st1 (Nat.le_add_right _ 1) fun b hb o e => ?_) S3 fun s2 mv2 S4 => K s2 (Moved.trans W.gtrans ((mv.mono fun b z => .tail _ z).then_heap (Nat.le_add_right _ 1) fun b o hb e => ?_) mv2) S4
    · rw [same.2 b (by rintro rfl; exact off hb)]; exact e
    · rw [same.2 b (by rintro rfl; exact hb List.mem_cons_self)]; exact e
end
section
variable {P : Program} {w : World} {A : Around} {E : Value → Shared → Prop} {s : Shared}
/-- a set with nothing in it -/
def set0 (led : Bool) : Obj := { cls := .type "set", dict := none, data := .set #[] 0 (.fresh 0 0 led) }
/-- what set(xs) leaves -/
def Left (P : Program) (w : World) (s : Shared) (xs : List Str) (h : Heap) : Prop := Hold P w h s.heap.objs.size (met xs xs.length) ∧ ∀ b o, s.heap.get? b = some o → h.get? b = some o
set_option maxHeartbeats 3200000 in
theorem set_init {l : Addr} {its : Array Value} {xs : List Str} {led : Bool} (hh : A.handled = none) (hl : s.heap.IsList l its) (hi : StrsAre its.toList xs) (few : xs.length + 1 < scanBound) :
    codeAny (model P w) A (.call (.builtin "set.__init__") ⟨[.ref s.heap.objs.size, .ref l], []⟩)
      (wants (fun r s2 => r = .none ∧ ∃ h tk, s2 = { s with heap := h, toks := tk } ∧ Left P w s xs h) E) { s with heap := s.heap.push (set0 led) } := by
  have at0 : (s.heap.push (set0 led)).get? s.heap.objs.size = some (set0 led) := Heap.get?_push_size _ rfl
  have len : xs.length = its.size := by rw [← StrsAre.len_eq hi, Array.length_toList]
  refine codeAny_call_builtin PySem.F.called_set.init.plain PySem.F.entry_set_init (check_set_init_1 ⟨_, at0, rfl⟩ ?_)
  obtain ⟨⟨cl, dd, dt, sl⟩, at1, c1, nl, d1⟩ := hl
  subst c1
  subst d1
  have at2 := Heap.get?_push_of_some (set0 led) at1
  have i2 : (s.heap.push (set0 led)).IsList l its := ⟨_, at2, rfl, nl, rfl⟩
  have f1 := PySem.F.sub_list_set
  have f2 := PySem.F.sub_list_frozenset
  have f3 : (Value.type "list" == Value.type "dict") = false := by decide
  unfold Builtin.«set.__init__» noKeywords Builtin.Frozenset.updateFrom
  generalize e : pyIter = it
  wp_walk
  subst e
  refine wpAny_pyIter_list i2 (wpAny_bind (wpAny_runValue ?_))
  have big : l < s.heap.objs.size := Heap.lt_size at1
  have sz : (s.heap.push (set0 led)).objs.size = s.heap.objs.size + 1 := Heap.size_push _ _
  have off : l ≠ (s.heap.push (set0 led)).objs.size := by rw [sz]; exact Nat.ne_of_lt (Nat.lt_succ_of_lt big)
  have off2 : s.heap.objs.size ∉ [(s.heap.push (set0 led)).objs.size, l] := by
    rw [sz]
    intro z
    rcases List.mem_cons.mp z with z | z
    · exact Nat.ne_of_lt (Nat.lt_succ_self _) z
    · exact Nat.ne_of_gt big (List.mem_singleton.mp z)
  refine fill (P := P) (w := w) (A := A.in1) (Walks.list (prog := P) (w := w) (A := A.in1.in1) (by simp [hh]) (s.heap.push (set0 led)).objs.size l off its).toS (a := s.heap.objs.size)
    off2 xs (by omega) (fun i v hv => ?_) (its.size - 0) 0 ⟨(s.heap.push (set0 led)).push { cls := .type "list_iterator", data := .fields #[.ref l, .int 0 0] }, s.gens, s.drawn, s.toks, s.os⟩ rfl (Nat.zero_le _)
    ⟨⟨_, Heap.get?_push_size _ rfl, rfl, rfl⟩, i2.push _⟩ ?_ ?_
  · obtain ⟨u, e⟩ := SS.strs_at hi i v (by rw [Array.getElem?_toList]; exact hv)
    have lt : i < xs.length := by
      rw [len]
      exact (Array.getElem?_eq_some_iff.mp hv).1
    refine ⟨xs.getD i Str.empty, u, ?_, e⟩
    rw [List.getD_eq_getElem?_getD, List.getElem?_eq_getElem lt]
    rfl
  · have at3 := Heap.get?_push_of_some (h := s.heap.push (set0 led)) { cls := .type "list_iterator", data := .fields #[.ref l, .int 0 0] } at0
    exact (PyProof.Rows.setObjOf_fresh (knd := PySem.strKind P w) led).setOf at3 (by unfold scanBound; omega)
  · intro s1 mv S
    obtain ⟨h1, g1, d1, t1, o1⟩ := s1
    obtain rfl : g1 = s.gens := mv.gens
    obtain rfl : d1 = s.drawn := mv.drawn
    obtain rfl : o1 = s.os := mv.os
    refine wpAny_pure (show wpAny _ _ (ret Value.none) _ _ _ from wpAny_pure ⟨rfl, h1, t1, rfl, by rw [← len] at S; exact S, fun b o e => ?_⟩)
    have lt := Heap.lt_size e
    refine mv.heap b o (fun z => ?_) (Heap.get?_push_of_some _ (Heap.get?_push_of_some _ e))
    rcases List.mem_cons.mp z with z | z
    · exact Nat.ne_of_lt lt z
    · rw [sz] at z
      exact Nat.ne_of_lt (Nat.lt_succ_of_lt lt) (List.mem_singleton.mp z)
/-- set(xs) of a list of texts -/
theorem call_setL {l : Addr} {its : Array Value} {xs : List Str} {Q : Value → Shared → Prop} (hh : A.handled = none) (hl : s.heap.IsList l its) (hi : StrsAre its.toList xs) (few : xs.length + 1 < scanBound)
    (k : ∀ h tk, Left P w s xs h → Q (.ref s.heap.objs.size) { s with heap := h, toks := tk }) : wpAny (model P w) A (call (.type "set") [.ref l]) Q E s := by
  have ft := PySem.F.called_set
  obtain ⟨c0, c1, c2⟩ := ft.mro
  have c3 := ft.made
  have c4 := ft.sub
  have c5 := ft.notType
  have c6 := ft.canCreate
  have c7 := PySem.F.typeCall_set_1 (.ref l)
  refine wpAny_call (codeAny_of_tree (show wpAny _ _ (callAny (.type "set") _) _ _ _ from wpAny_pure ⟨Code.quiet_builtin _ (by decide +kernel), codeAny_builtin PySem.F.entry_type_call ?_⟩))
  rw [Around.under_plain (weight_type_call_type "set" [.ref l] []) rfl]
  repeat (any_goals (first | assumption | wp_step))
  refine codeAny_mono (code_set_new_1 (.ref l) (E := E) (Q₁ := fun ob s1 => ∃ led, ob = .ref s.heap.objs.size ∧ s1 = ⟨s.heap.push (set0 led), s.gens, s.drawn, s.toks, s.os⟩) fun led => ⟨led, rfl, rfl⟩) fun r s1 z => ?_
  match r, z with
  | .error _, z => exact z
  | .ok (.ret ob), z =>
    obtain ⟨led, rfl, rfl⟩ := z
    have ty : Shared.TypeIs ⟨s.heap.push (set0 led), s.gens, s.drawn, s.toks, s.os⟩ (.ref s.heap.objs.size) "set" := ⟨_, Heap.get?_push_size _ rfl, rfl⟩
    have c8 := ft.init.lookup
    have c9 := ft.init.bind (.ref s.heap.objs.size)
    repeat (any_goals (first | assumption | wp_step))
    refine codeAny_mono (set_init (E := E) (led := led) (by simp [hh]) hl hi few) fun r2 s2 z2 => ?_
    match r2, z2 with
    | .error _, z2 => exact z2
    | .ok (.ret r), z2 =>
      obtain ⟨rfl, h, tk, rfl, z3⟩ := z2
      repeat (any_goals (first | assumption | wp_step))
      exact k _ _ z3
end
section
variable {X : Cx}
/-- len(set(xs)) -/
def tLset (K : PySem.W.Frag) (ta : TE) : TE := fun σ H Q => ta σ H fun x H1 => ∃ (a : Addr) (xs : List Str), x = .ref a ∧ SqL K H1 a (xs.map V.str) ∧ xs.length < 4000 ∧ Q (.int (nub xs).length) H1
theorem pe_lset {a : Expr} {ta : TE} {p p2 q pos : Pos} (hc : X.calm = true) (g1 : Gl X "len") (m1 : X.mg "len" = none) (g2 : Gl X "set") (m2 : X.mg "set" = none) (ha : PE X a ta)
    (na : starEach [a] X.env = (false, eval a X.env) :: starEach [] X.env) : PE X (.Call (.Name "len" p) [.Call (.Name "set" p2) [a] [] q] [] pos) (tLset X.K ta) := ⟨fun pins s σ H Q I w => by
  refine Call_ (ld_blt I g1 m1 boot_len (PyProof.Rows.callWith_builtin1 (PyProof.Rows.args_cons ?_ rfl) rfl rfl))
  refine Call_ (ld_blt I g2 m2 boot_set (PyProof.Rows.callWith_type1 (PyProof.Rows.args_cons (thn (ha.run pins s σ H _ I w) fun v s1 ⟨x, H1, I1, r1, w1⟩ => PyProof.Rows.args_nil ?_) na) na rfl))
  obtain ⟨b, xs, rfl, sq, few, w1⟩ := w1
  cases r1
  obtain ⟨its, rv, pl, hz⟩ := I1.list sq
  refine call_setL (I1.ok.hd hc) pl.isList (by simpa using strsAre_of rv) (by unfold scanBound; omega) fun h tk lf => PyProof.Rows.args_nil ?_
  obtain ⟨⟨o, es, ep, t, ho, ex, hd, _, _, _, hf, hn⟩, keep⟩ := lf
  have I2 : Inv X pins σ H1 ⟨h, s1.gens, s1.drawn, tk, s1.os⟩ := I1.kept keep
  have hm : (met xs xs.length).length = (nub xs).length := by unfold met; rw [List.take_length]
  have := met_small xs xs.length
  refine call_len_set ho ex hd hf (by rw [hn]; omega) ⟨.int (nub xs).length, H1, I2.tok _, ⟨_, by rw [hn, hm]⟩, w1⟩⟩
end

/-! ### tuples whose objects are known -/
/-- behind a new tuple of xs -/
def TupAt (Q : VK) (H : Hp) (xs : List V) : Prop := ∀ (p : Addr) (o : Obj), o.dict = none → H p = none → Q (.ref p) (upd H p (.frz o (.tup xs)))
section
variable {X : Cx} {pins : List (Addr × Obj)} {σ : L2.St} {H : Hp} {s : Shared}
def tO (us : List Value) : Obj := { cls := .type "tuple", data := .seq us.toArray }
theorem lay_tup (I : Inv X pins σ H s) {us : List Value} {xs : List V} {Q : VK} (z : xs.length ≤ sizeLine) (r : Vals xs us) (q : TupAt Q H xs) :
    EP X pins σ Q (.ref s.heap.objs.size) ⟨s.heap.push (tO us), s.gens, s.drawn, s.toks, s.os⟩ :=
  ⟨.ref s.heap.objs.size, upd H s.heap.objs.size (.frz (tO us) (.tup xs)), I.laid (t' := s.toks) (fun b u e => Heap.get?_push_of_some _ e) (Nat.le_refl _)
    (show ObjOk X.prog X.w _ _ _ (.frz (tO us) (.tup xs)) from ⟨Heap.get?_push_size _ rfl, z, us, r, _, Heap.get?_push_size _ rfl, rfl, _, rfl⟩), rfl, q _ (tO us) rfl (I.hok.fresh (Nat.le_refl _))⟩
def tTupF (t : TA) : TE := fun σ H Q => t σ H fun xs H1 => xs.length ≤ sizeLine ∧ TupAt Q H1 xs
theorem pe_tupF {es : List Expr} {t : TA} {pos : Pos} {x1 : Nat} (h : PA X es t) : PE X (.Tuple es x1 pos) (tTupF t) := ⟨fun pins s σ H Q I w =>
  wpAny_Tuple_spliced (thn (h.run pos pins s σ H _ I w) fun us s1 ⟨xs, H1, I1, r, z, q⟩ => ⟨by rw [← r.length]; exact z, lay_tup I1 z r q⟩)⟩
def rTupOf (K : PySem.W.Frag) : List V → Hp → VK → Prop := fun xs H Q => ∃ a ys, xs = [.ref a] ∧ ((SqL K H a ys ∧ TupAt Q H ys) ∨ (SqT K H a ys ∧ Q (.ref a) H))
theorem call_tupF : CallR X (.type "tuple") (rTupOf X.K) := by
  intro pins s σ H xs us Q I r w
  obtain ⟨a, ys, rfl, w⟩ := w
  obtain ⟨u, rfl, ru⟩ := vals1 r
  cases ru
  rcases w with ⟨sq, q⟩ | ⟨sq, q⟩
  · obtain ⟨its, rv, pl, z⟩ := I.list sq
    have n := rv.length
    exact call_tuple_list pl.isList (fun h2 keep => lay_tup (I.kept (t' := s.toks) keep) z rv q) (by rw [List.size_toArray]; omega)
  · obtain ⟨its, rv, pl, z⟩ := I.tuple sq
    exact call_tuple_same pl ⟨.ref a, H, I, rfl, q⟩
def rCatF (K : PySem.W.Frag) : R2 := fun x y H Q => ∃ a b xs ys, x = .ref a ∧ y = .ref b ∧ SqT K H a xs ∧ SqT K H b ys ∧ xs.length + ys.length ≤ sizeLine ∧
  (xs = [] → Q (.ref b) H) ∧ (xs ≠ [] → ys = [] → Q (.ref a) H) ∧ (xs ≠ [] → ys ≠ [] → TupAt Q H (xs ++ ys))
theorem op_catF : OpR X (binaryOp .Add) (rCatF X.K) := by
  intro pins s σ H x y v u Q I rx ry w
  obtain ⟨a, b, xs, ys, rfl, rfl, ha, hb, z, q0, q1, q2⟩ := w
  cases rx
  cases ry
  obtain ⟨its, r1, p1, _⟩ := I.tuple ha
  obtain ⟨jts, r2, p2, _⟩ := I.tuple hb
  by_cases hx : xs = []
  · subst hx
    cases r1
    exact cat_tup0 p1 p2 ⟨.ref b, H, I, rfl, q0 rfl⟩
  · refine HT.cat_tup p1 p2 (fun e => hx (r1.nil_iff.mp e)) (fun e => ⟨.ref a, H, I, rfl, q1 hx (r2.nil_iff.mp e)⟩) (fun e => lay_tup I (by rw [List.length_append]; exact z) (r1.append r2) (q2 hx fun e2 => e (r2.nil_iff.mpr e2))) (by rw [← r1.length, ← r2.length]; exact z)
def rSlF (K : PySem.W.Frag) : V → Option Int → Option Int → Hp → VK → Prop := fun x lo hi H Q => ∃ a xs, x = .ref a ∧ SqT K H a xs ∧
  ¬ (HT.sIx xs.length 0 lo = 0 ∧ HT.sIx xs.length xs.length hi = xs.length) ∧ TupAt Q H (cutV xs lo hi)
theorem sl_tupF : SlR X (rSlF X.K) := by
  intro pins s σ H x v vl vu lo hi sl Q I rx hs pl pu w
  obtain ⟨a, xs, rfl, sq, no, q⟩ := w
  cases rx
  obtain ⟨its, r, ht, z⟩ := I.tuple sq
  have n : its.toArray.size = xs.length := by rw [List.size_toArray]; exact r.length.symm
  refine ⟨"tuple", _, PyProof.Rows.slot_tuple_getitem.lookup, ht.typeIs, HT.getItem_tuple_cut ht hs pl pu (by rw [n]; exact no) ?_ (by rw [n]; exact z)⟩
  rw [n]
  exact lay_tup I (Nat.le_trans (cutV_length xs lo hi) z) ((r.drop (HT.sIx xs.length 0 lo)).take (HT.sIx xs.length xs.length hi - HT.sIx xs.length 0 lo)) q
end

/-- it has no dict of its own -/
def BareT (K : PySem.W.Frag) (H : Hp) (a : Addr) : Prop := (∃ o u, H a = some (.frz o u) ∧ o.dict = none) ∨ ∃ o, K.lookup a = some o ∧ o.dict = none
section
variable {X : Cx} {pins : List (Addr × Obj)} {σ : L2.St} {H : Hp} {s : Shared}
theorem BareT.at_ {a : Addr} (b : BareT X.K H a) (I : Inv X pins σ H s) : ∃ o, s.heap.get? a = some o ∧ o.dict = none := by
  rcases b with ⟨o, u, e, d⟩ | ⟨o, e, d⟩
  · exact ⟨o, (I.hok a _ e).1, d⟩
  · exact ⟨o, I.kIn a o e, d⟩
def tTM (K : PySem.W.Frag) (r : V → List V → Hp → VK → Prop) (to : TE) (t : TA) : TE := fun σ H Q => to σ H fun x H1 => (∃ a xs, x = .ref a ∧ SqT K H1 a xs ∧ BareT K H1 a) ∧ t σ H1 fun xs H2 => r x xs H2 Q
variable {o e : Expr} {es : List Expr} {to : TE} {t : TA} {name : Str} {apos cpos : Pos} {id : String} {r : V → List V → Hp → VK → Prop}
theorem pe_tM (slot : Slot "tuple" name id) (ty : typeOf (.builtin id) = pure (.type "method_descriptor")) (hm : MtR X id r) (ho : PE X o to) (ha : PA X (e :: es) t) (b0 : attributeBase o name X.env (eval o X.env) = eval o X.env)
    (few : ((backTo cpos (starEach (e :: es) X.env)).all (fun x => !x.1) && (backToKw cpos (keywordEach [] X.env)).all (fun x => x.1.isSome)
      && decide ((e :: es).length + ([] : List Keyword).length + (if ([] : List Keyword).isEmpty then 0 else 1) < 30)) = true)
    (ln : (apos.endLine == cpos.line) = true) (st : starEach (e :: es) X.env = (false, eval e X.env) :: starEach es X.env) (pl : (backTo cpos (starEach es X.env)).any (·.1) = false) :
    PE X (.Call (.Attribute o name apos) (e :: es) [] cpos) (tTM X.K r to t) := ⟨fun pins s σ H Q I w =>
  wpAny_Call_method_late b0 few ln rfl (thn (ho.run pins s σ H _ I w) fun v s1 ⟨x, H1, I1, r1, ⟨a, xs, ex, sq, ba⟩, w1⟩ => by
    subst ex
    cases r1
    obtain ⟨its, _, p1, _⟩ := I1.tuple sq
    obtain ⟨ob, h1, h2⟩ := ba.at_ I1
    refine ⟨"tuple", id, PySem.F.plainAttrs_tuple, slot, ty, p1.typeIs, fun b eb => by cases eb; exact ⟨ob, h1, h2⟩, ?_⟩
    have hA := ha.run cpos pins s1 σ H1 _ I1 w1
    rw [st] at hA ⊢
    refine Calls.callWith_builtin (by show (false || (backTo cpos (starEach es X.env)).any (·.1)) = false; rw [pl] <;> rfl) (Calls.evalArgs_plain ?_)
    exact thn hA fun us s2 ⟨vs, H2, I2, r2, w2⟩ => hm pins s2 σ H2 (.ref a) vs _ us Q I2 rfl r2 w2)⟩
/-- dict(t), t a tuple of pairs -/
def rDictT (K : PySem.W.Frag) : List V → Hp → VK → Prop := fun xs H Q => ∃ (a : Addr) (ps : List Addr) (kvs : List (L2.Key × V)), xs = [.ref a] ∧ SqT K H a (ps.map V.ref) ∧ BareT K H a ∧ Paired (fun p kv => SqT K H p [kV kv.1, kv.2]) ps kvs ∧
    ∀ p, H p = none → Q (.ref p) (upd H p (.dK (mergeK [] kvs)))
theorem call_dictT (hc : X.calm = true) : CallR X (.type "dict") (rDictT X.K) := by
  intro pins s σ H xs us Q I r w
  obtain ⟨a, ps, kvs, rfl, sq, ba, pp, q⟩ := w
  obtain ⟨u, rfl, ru⟩ := vals1 r
  cases ru
  obtain ⟨its, rv, ⟨ob, g1, g2, n, g3⟩, z⟩ := I.tuple sq
  obtain rfl := refs_at rv
  rw [List.length_map] at z
  obtain ⟨prs, rel, ln, each⟩ := pairs_of I pp
  obtain ⟨o2, g4, g5⟩ := ba.at_ I
  rw [g1] at g4
  cases g4
  have pick : ∀ (j : Nat) (q : L2.Key × Value), prs[j]? = some q → ∃ u, ps[j]? = some (ps.getD j 0) ∧ s.heap.IsTuple (ps.getD j 0) #[u, q.2] ∧ keyIs q.1 u = true := fun j q e => by
    obtain ⟨b, u, e1, e2, e3⟩ := each j q e
    have eb : ps.getD j 0 = b := by rw [List.getD_eq_getElem?_getD, e1]; rfl
    rw [eb]
    exact ⟨u, e1, e2, e3⟩
  have keys : ∃ ks : List Value, ks.length = prs.length ∧ ∀ (j : Nat) (q : L2.Key × Value) (u : Value), prs[j]? = some q → ks[j]? = some u → s.heap.IsTuple (ps.getD j 0) #[u, q.2] ∧ keyIs q.1 u = true := by
    refine ⟨(List.range prs.length).map fun j => if h : j < prs.length then (pick j prs[j] (List.getElem?_eq_getElem h)).choose else .none, by simp, fun j q u e1 e2 => ?_⟩
    obtain ⟨hj, ej⟩ := List.getElem?_eq_some_iff.mp e1
    rw [List.getElem?_map, List.getElem?_range hj] at e2
    simp only [Option.map_some, Option.some.injEq] at e2
    rw [dif_pos hj] at e2
    subst ej
    have := (pick j prs[j] (List.getElem?_eq_getElem hj)).choose_spec
    rw [e2] at this
    exact this.2
  obtain ⟨ks, kl, kp⟩ := keys
  have zl : (ks.zip (prs.map (·.2))).length = prs.length := by simp [kl]
  have zat : ∀ (i : Nat) (k v : Value), (ks.zip (prs.map (·.2)))[i]? = some (k, v) → ∃ q, prs[i]? = some q ∧ q.2 = v ∧ ks[i]? = some k := fun i k v e => by
    obtain ⟨e1, e2⟩ := List.getElem?_zip_eq_some.mp e
    rw [List.getElem?_map] at e2
    cases h : prs[i]? with
    | none => rw [h] at e2; cases e2
    | some q => rw [h] at e2; exact ⟨q, rfl, Option.some.inj e2, e1⟩
  refine PySem.call_dict_pairs (knd := mixKind X.prog X.w) (kvs := prs) (PairArg.tuple a (ps.map Value.ref).toArray (fun j => ps.getD j 0) (ks.zip (prs.map (·.2)))) (I.ok.hd hc) ⟨⟨ob, n, g1, g2, g5, g3⟩, ?_, fun j k v e => ?_⟩ ⟨zl.symm, fun i k v e => ?_⟩ (by rw [zl, ln]; exact z) fun h2 tk hd keep => ?_
  · rw [zl, ln]; simp
  · obtain ⟨q, e1, e2, e3⟩ := zat j k v e
    obtain ⟨u, e4, _⟩ := pick j q e1
    obtain ⟨t1, t2⟩ := kp j q k e1 e3
    rw [e2] at t1
    refine ⟨?_, .inl t1⟩
    rw [List.getElem?_toArray, List.getElem?_map, e4]
    rfl
  · obtain ⟨q, e1, e2, e3⟩ := zat i k v e
    obtain ⟨t1, t2⟩ := kp i q k e1 e3
    exact ⟨q.1, by rw [e1, ← e2], t2⟩
  · have hm : (s.heap.objs.size == sysModules) = false := beq_eq_false_iff_ne.mpr (Nat.ne_of_gt I.big)
    have hl : (mergeK [] kvs).length ≤ sizeLine := by
      have := length_mergeK kvs []
      have := rel.length
      simp only [List.length_nil] at *
      omega
    exact ⟨.ref s.heap.objs.size, upd H s.heap.objs.size (.dK (mergeK [] kvs)), I.laid (t' := tk) (fun b o e => keep b o (by simp) e) (Nat.le_refl _) (show ObjOk X.prog X.w _ _ _ (.dK (mergeK [] kvs)) from ⟨hl, hm, merged [] prs, KV.merge rel .nil, hd⟩), rfl, q _ (I.hok.fresh (Nat.le_refl _))⟩
end
end Mi

set_option Elab.async false
set_option linter.all false
set_option maxRecDepth 100000
set_option maxHeartbeats 1000000
/-! Mi: some more rules over the kit's: d.update(e), d[k] by a text, xs.count(text), t[::-1] of a tuple. -/
namespace Mi
open PySem PySem.Spec PyProof.Rows L2
section
variable {X : Cx}
def rDUpd : V → List V → Hp → VK → Prop := fun x vs H Q => ∃ (a b : Addr) (kvs es : List (L2.Key × V)), x = .ref a ∧ vs = [.ref b] ∧ a ≠ b ∧ H a = some (.dK kvs) ∧ H b = some (.dK es) ∧ kvs.length + es.length ≤ sizeLine ∧ Q .non (upd H a (.dK (mergeK kvs es)))
theorem mt_dupd : MtR X "dict.update" rDUpd := by
  intro pins s σ H x vs v us Q I rx rv h
  obtain ⟨a, b, kvs, es, rfl, rfl, hne, e, e2, hz, q⟩ := h
  obtain rfl : v = Value.ref a := rx
  obtain ⟨u, rfl, ru⟩ := rv.one
  obtain rfl : u = Value.ref b := ru
  obtain ⟨z, hd, vs, rel, dd⟩ := dk_of I.hok e
  obtain ⟨z2, hd2, vs2, rel2, dd2⟩ := dk_of I.hok e2
  refine call_meetsIn PySem.F.slot_dict_update dd.typeIs PySem.F.entry_dict_update (PySem.F.args_dict_update_2 _ _) (meets_dict_update (mixKind X.prog X.w) a b hne hd2)
    ⟨vs, vs2, dd, dd2, by rw [← rel.length, ← rel2.length]; exact hz, fun h' dd' _ hs => ⟨.non, _, ?_, rfl, q⟩⟩
  have he : ∃ q, h'.get? a = some q := let ⟨q, _, _, hq, _⟩ := dd'; ⟨q, hq⟩
  have hl : (mergeK kvs es).length ≤ sizeLine := Nat.le_trans (length_mergeK es kvs) hz
  exact d_write (t' := s.toks) I (by rw [e]; exact True.intro) hs he (dk_new hl hd (rel2.merge rel) dd')
/-- d[k], there -/
def rIxDK : R2 := fun x y H Q => ∃ (a : Addr) (kvs : List (L2.Key × V)) (z : Str) (v : V), x = .ref a ∧ y = .str z ∧ H a = some (.dK kvs) ∧ valV kvs (Sum.inr z : L2.Key) = some v ∧ Q v H
theorem ix_dK (hu : X.A.units + 1 < cLine) : IxR X rIxDK := by
  intro value slice pins s σ H x y v u Q I rx ry h hs
  obtain ⟨a, kvs, z, w, rfl, rfl, e, l, q⟩ := h
  obtain rfl : v = Value.ref a := rx
  have g : DGet H a (.str z) (some w) := by rw [← l]; exact DGet.k (k := Sum.inr z) e
  exact tail_any (dict_typeIs I g) PySem.F.slot_dict_getitem.lookup (d_getItem hu I g ry fun w' s3 I3 rw' => ⟨w, H, I3, rw', q⟩) hs
def rCntS (K : PySem.W.Frag) : V → List V → Hp → VK → Prop := fun x xs H Q => ∃ (p : Addr) (ns : List Str) (k : Str), x = .ref p ∧ xs = [.str k] ∧ SqL K H p (ns.map V.str) ∧ Q (.int (ns.countP (· == k) : Nat)) H
theorem strs_of_vals : ∀ {ys : List Str} {us : List Value}, Vals (ys.map V.str) us → StrsAre us ys
  | [], _, .nil => .nil
  | y :: ys, _, .cons r t => by
    obtain ⟨k, rfl⟩ := r
    exact .cons _ _ (strs_of_vals t)
theorem count_strs (k : Str) : ∀ {vs : List Value} {ys : List Str}, StrsAre vs ys → vs.countP (isStrOf k) = ys.countP (· == k)
  | _, _, .nil => rfl
  | _, _, .cons n u h => by
    rw [List.countP_cons, List.countP_cons, count_strs k h]
    rfl
theorem mt_countS : MtR X "list.count" (rCntS X.K) := by
  intro pins s σ H x xs v us Q I rx rxs h
  obtain ⟨p, ns, k, rfl, rfl, hs, q⟩ := h
  cases rx
  obtain ⟨u, rfl, ru⟩ := rxs.one
  obtain ⟨t, rfl⟩ := ru
  obtain ⟨its, rv, ⟨⟨cls, dd, data, sl⟩, n, ho, hc, hdn, hd⟩, hlen⟩ := I.list hs
  simp only at hc hd
  subst hc hd
  have hi := strs_of_vals rv
  refine call_meets PySem.F.slot_list_count ⟨_, ho, rfl⟩ PySem.F.entry_list_count (PySem.F.args_list_count_2 _ _)
    (SeqAt.list_countAt p its.toArray n dd sl (.str k t) (isStrOf k)) ⟨ho, fun y hy => (eq_isStrOf k t hi y (by simpa using hy)).at _ _, ?_⟩
  have ec : its.toArray.toList.countP (isStrOf k) = ns.countP (· == k) := count_strs k hi
  refine ⟨.int (ns.countP (· == k) : Nat), H, I.tok _, ⟨s.toks, ?_⟩, q⟩
  show Value.int ((its.toArray.toList.countP (isStrOf k) : Nat) : Int) s.toks = _
  rw [ec]

end
section
variable {prog : Program} {w : World} {A : Around} {E : Value → Shared → Prop} {s : Shared}
theorem applied_back {sl : Addr} {k : Tok} {n : Nat} {Q : Int × Int × Nat → Shared → Prop} (hs : s.heap.IsSliceOf sl .none .none (.int (-1) k))
    (h : Q ((n : Int) - 1, -1, n) s) : wpAny (model prog w) A (Builtin.Slice.sliceApplied (.ref sl) (pure (n : Int))) Q E s := by
  obtain ⟨os, hos, hcs, hds⟩ := id hs
  unfold Builtin.Slice.sliceApplied Builtin.Slice.sliceFields
  refine wpAny_bind (wpAny_bind (wpAny_field hos hds (x := .none) rfl (wpAny_bind (wpAny_field hos hds (x := .none) rfl (wpAny_bind (wpAny_field hos hds (x := .int (-1) k) rfl (wpAny_pure ?_)))))))
  refine wpAny_bind (slicePart_int ?_)
  show wpAny _ _ (if ((-1 : Int) == 0) = true then _ else _) _ _ s
  rw [if_neg (by decide)]
  refine wpAny_bind (slicePart_none (wpAny_bind (slicePart_none (wpAny_bind (wpAny_pure ?_)))))
  show wpAny _ _ (match Builtin.Slice.sliceAdjust none none (-1) (n : Int) with | (lo, hi) => pure (lo, (-1 : Int), Builtin.Slice.slicePlaces lo hi (-1))) _ _ s
  have e1 : Builtin.Slice.sliceAdjust none none (-1) (n : Int) = ((n : Int) - 1, -1) := rfl
  rw [e1]
  show wpAny _ _ (pure ((n : Int) - 1, (-1 : Int), Builtin.Slice.slicePlaces ((n : Int) - 1) (-1) (-1))) _ _ s
  have e2 : Builtin.Slice.slicePlaces ((n : Int) - 1) (-1) (-1) = n := by
    unfold Builtin.Slice.slicePlaces
    rw [if_neg (by decide)]
    split
    · rw [show (- -1 : Int) = 1 by decide, Int.ediv_one]; omega
    · omega
  rw [e2]
  exact wpAny_pure h
theorem pick_backT (xs : List Value) : ((List.range xs.length).filterMap fun (m : Nat) => xs.toArray[(((xs.length : Int) - 1) + (m : Int) * (-1)).toNat]?).toArray = xs.reverse.toArray := by
  congr 1
  have e2 : ∀ n, n ≤ xs.length → List.filterMap (fun (m : Nat) => xs.toArray[(((xs.length : Int) - 1) + (m : Int) * (-1)).toNat]?) (List.range n) = xs.reverse.take n := by
    intro n
    induction n with
    | zero => intro _; rfl
    | succ n ih =>
      intro hn
      rw [List.range_succ, List.filterMap_append, ih (by omega), List.take_add_one]
      congr 1
      have h1 : xs.length - 1 - n < xs.length := by omega
      have h2 : n < xs.reverse.length := by simp; omega
      have h3 : (((xs.length : Int) - 1) + (n : Int) * (-1)).toNat = xs.length - 1 - n := by omega
      rw [List.getElem?_eq_getElem h2, List.getElem_reverse]
      simp only [List.filterMap_cons, h3]
      simp [h1]
  rw [e2 _ (Nat.le_refl _), List.take_of_length_le (by simp)]
theorem getItem_tuple_back {t sl : Addr} {items : List Value} {k : Tok} {Q : Value → Shared → Prop} (ht : IsTup s.heap t items.toArray) (hs : s.heap.IsSliceOf sl .none .none (.int (-1) k))
    (h : Q (.ref s.heap.objs.size) { s with heap := s.heap.push { cls := .type "tuple", data := .seq items.reverse.toArray } })
    (hsz : items.length ≤ sizeLine) : wpAny (model prog w) A (getItem (.ref t) (.ref sl)) Q E s := by
  have htake : sizeOk (.seq items.reverse.toArray) := by
    show items.reverse.toArray.size ≤ sizeLine
    rw [List.size_toArray, List.length_reverse]
    exact hsz
  obtain ⟨os, hos, hcs, hds⟩ := id hs
  have hTs : s.TypeIs (.ref sl) "slice" := ⟨os, hos, hcs⟩
  unfold getItem
  try with_reducible refine wpAny_holding ?_
  first | refine wpAny_bind (wpAny_pure ?_) | skip
  refine wpAny_bind (wpAny_sequenceKey ht.typeIs (by decide) ?_)
  refine wpAny_bind (wpAny_callSpecial?_slot (name := Str.ofString "__getitem__") ht.typeIs PyProof.Rows.slot_tuple_getitem
    (wpAny_call_entry PyProof.Rows.slot_tuple_getitem ht.typeIs entry_tuple_getitem ?_ (args_tuple_getitem _ _)))
  show wpAny _ _ (Builtin.Tuple.tupleItemsOf (.ref t) >>= _) _ _ s
  refine wpAny_bind (tupleItemsOf_ ht ?_)
  refine wpAny_bind (wpAny_typeOf hTs ?_)
  rw [if_pos (by decide)]
  rw [List.size_toArray]
  refine wpAny_bind (applied_back hs ?_)
  have hno : ¬ ((((items.length : Int) - 1 == 0) && ((-1 : Int) == 1) && items.length == items.length) = true) := by
    intro q
    rw [Bool.and_eq_true, Bool.and_eq_true] at q
    exact absurd (eq_of_beq q.1.2) (by decide)
  show wpAny _ _ (if (((items.length : Int) - 1 == 0) && ((-1 : Int) == 1) && items.length == items.length) = true then _ else _) _ _ s
  rw [if_neg hno, pick_backT]
  first
    | exact wpAny_bind (m := Builtin.Tuple.tupleExact _) (wpAny_newObj_type (wpAny_pure ⟨_, rfl, wpAny_pure h⟩) htake)
    | exact wpAny_bind (m := Builtin.Tuple.tupleExact _) (wpAny_newObj_type (wpAny_bind (wpAny_pure (wpAny_pure ⟨_, rfl, wpAny_pure h⟩))) htake)
    | exact wpAny_bind (wpAny_bind (m := Builtin.Tuple.tupleExact _) (wpAny_newObj_type (wpAny_pure (wpAny_pure ⟨_, rfl, wpAny_pure h⟩)) htake))
    | exact wpAny_bind (wpAny_bind (m := Builtin.Tuple.tupleExact _) (wpAny_newObj_type (wpAny_pure ⟨_, rfl, wpAny_pure h⟩) htake))
end
end Mi

set_option Elab.async false
set_option linter.all false
set_option maxRecDepth 100000
/-! Mi: the slice of a list from its end to its beginning, by the step -1. -/
namespace Mi
open PySem PySem.Spec PyProof.Rows L2
theorem range_back (n : Nat) : sliceRange ((n : Int) - 1) (-1) (-1) = (List.range n).map fun k => n - 1 - k := by
  unfold sliceRange
  have e : (if (-1 : Int) > 0 then (if (n : Int) - 1 < -1 then (-1 - ((n : Int) - 1) + -1 - 1) / -1 else 0) else (if (n : Int) - 1 > -1 then ((n : Int) - 1 - -1 - -1 - 1) / (- -1) else 0)) = n := by
    rw [if_neg (by decide)]
    split
    · rw [show (- -1 : Int) = 1 by decide, Int.ediv_one]; omega
    · omega
  simp only [e, Int.toNat_natCast]
  refine List.map_congr_left fun k hk => ?_
  have := List.mem_range.mp hk
  omega
theorem pick_back (xs : List Value) : slicePick xs.toArray none none (some (-1)) = xs.reverse.toArray := by
  unfold slicePick
  congr 1
  have e : sliceBounds none none (some (-1)) xs.toArray.size = ((xs.length : Int) - 1, -1, -1) := by
    simp [sliceBounds]
  rw [e]
  show List.filterMap (xs.toArray[·]?) (sliceRange ((xs.length : Int) - 1) (-1) (-1)) = xs.reverse
  rw [range_back, List.filterMap_map]
  have e2 : ∀ n, n ≤ xs.length → List.filterMap ((fun i => xs.toArray[i]?) ∘ fun k => xs.length - 1 - k) (List.range n) = xs.reverse.take n := by
    intro n
    induction n with
    | zero => intro _; rfl
    | succ n ih =>
      intro hn
      rw [List.range_succ, List.filterMap_append, ih (by omega), List.take_add_one]
      congr 1
      have h1 : xs.length - 1 - n < xs.length := by omega
      have h2 : n < xs.reverse.length := by simp; omega
      rw [List.getElem?_eq_getElem h2, List.getElem_reverse]
      simp [h1]
  rw [e2 _ (Nat.le_refl _), List.take_of_length_le (by simp)]
section
variable {X : Cx} {e st : Expr} {te ts : TE} {pos p2 : Pos}
def rRevL (K : PySem.W.Frag) : V → Hp → VK → Prop := fun x H Q => ∃ a xs, x = .ref a ∧ ((SqL K H a xs ∧ ∀ p, H p = none → Q (.ref p) (upd H p (.lst xs.reverse))) ∨ (SqT K H a xs ∧ TupAt Q H xs.reverse))
def tRev (K : PySem.W.Frag) (te ts : TE) : TE := fun σ H Q => te σ H fun x H1 => ts σ H1 fun y H2 => y = .int (-1) ∧ rRevL K x H2 Q
theorem rev_vals {xs : List V} {us : List Value} (r : Vals xs us) : Vals xs.reverse us.reverse := by
  induction r with
  | nil => exact .nil
  | cons a b ih =>
    rw [List.reverse_cons, List.reverse_cons]
    exact ih.append (.cons a .nil)
theorem pe_rev (he : PE X e te) (hs : PE X st ts) : PE X (.Subscript e (.Slice none none (some st) p2) pos) (tRev X.K te ts) := by
  refine ⟨fun pins s σ H Q I h => ?_⟩
  refine Subscript_ (thn (he.run pins s σ H _ I h) fun v s1 ⟨x, H1, I1, r1, q1⟩ => ?_)
  refine wpAny_Slice ?_
  rw [evalPart_none]
  refine wpAny_pure ?_
  refine wpAny_pure ?_
  rw [evalPart_some]
  refine thn (hs.run pins s1 σ H1 _ I1 q1) fun vs s3 ⟨y, H3, I3, r3, ey, q3⟩ => ?_
  subst ey
  obtain ⟨t, rfl⟩ := r3
  have I4 : Inv X pins σ H3 { s3 with heap := s3.heap.push { cls := .type "slice", data := .fields #[.none, .none, .int (-1) t] } } := I3.kept (t' := s3.toks) fun b ob q => Heap.get?_push_of_some _ q
  obtain ⟨a, xs, rfl, q3⟩ := q3
  cases r1
  rcases q3 with ⟨hx, q⟩ | ⟨hx, q⟩
  · obtain ⟨its, r, ht, hz⟩ := I4.list hx
    have hlen := r.length
    have hg : wpAny (model X.prog X.w) X.A (getItem (.ref a) (.ref s3.heap.objs.size)) (EP X pins σ Q) X.xe { s3 with heap := s3.heap.push { cls := .type "slice", data := .fields #[.none, .none, .int (-1) t] } } := by
      refine wpAny_getItem_list_slice ht.isList (Heap.IsSliceOf.new ..) .none .none (.int (-1) t) (by decide) ?_ (by rw [List.size_toArray] <;> omega)
      rw [pick_back]
      refine ⟨.ref _, _, I4.laid (t' := s3.toks) (o := .lst xs.reverse) (fun b ob q => Heap.get?_push_of_some _ q) (Nat.le_refl _) ?_, rfl, q _ (I4.hok.fresh (Nat.le_refl _))⟩
      exact ⟨by rw [List.length_reverse]; exact hz, _, 0, rev_vals r, Heap.get?_push_size _ rfl⟩
    exact tail_any (ops := [.ref a, .ref s3.heap.objs.size]) ht.isList.typeIs slot_list_getitem.lookup hg (by with_unfolding_all rfl)
  · obtain ⟨its, r, ht, hz⟩ := I4.tuple hx
    have hlen := r.length
    have hg : wpAny (model X.prog X.w) X.A (getItem (.ref a) (.ref s3.heap.objs.size)) (EP X pins σ Q) X.xe { s3 with heap := s3.heap.push { cls := .type "slice", data := .fields #[.none, .none, .int (-1) t] } } := by
      exact getItem_tuple_back ht (Heap.IsSliceOf.new ..) (lay_tup I4 (by rw [List.length_reverse]; exact hz) (rev_vals r) q) (by omega)
    exact tail_any (ops := [.ref a, .ref s3.heap.objs.size]) ht.typeIs slot_tuple_getitem.lookup hg (by with_unfolding_all rfl)
end
end Mi

set_option Elab.async false
set_option linter.all false
set_option maxRecDepth 100000
/-! Mi: how its values and objects lie in the layer's heap. -/
namespace Mi
open PySem PySem.Spec PyProof.Rows L2

section
variable (K : PySem.W.Frag) (loc : List Addr) (H : Hp)
mutual
def RD : D → V → Prop
  | .non, v => v = .non
  | .bl b, v => v = .bl b
  | .int i, v => v = .int i
  | .str x, v => v = .str x
  | .tup ds, v => ∃ a vs, v = .ref a ∧ SqT K H a vs ∧ BareT K H a ∧ RDs ds vs
  | .ref n, v => ∃ a, v = .ref a ∧ loc[n]? = some a
  | .fn a, v => v = .ref a
def RDs : List D → List V → Prop
  | [], vs => vs = []
  | d :: ds, vs => ∃ v r, vs = v :: r ∧ RD d v ∧ RDs ds r
end
end
/-- a list that nobody changes -/
def Fz (K : PySem.W.Frag) (H : Hp) (a : Addr) (vs : List V) : Prop :=
  (∃ o, H a = some (.frz o (.lst vs))) ∨ ∃ (o : Obj) (its : Array Value) (n : Nat), K.lookup a = some o ∧ o.cls = .type "list" ∧ o.dict = none ∧ o.data = .seq its n ∧ its.size ≤ sizeLine ∧ Vals vs its.toList
theorem Fz.sq {K : PySem.W.Frag} {H : Hp} {a : Addr} {vs : List V} (f : Fz K H a vs) : SqL K H a vs := by
  rcases f with ⟨o, e⟩ | f
  · exact .inl (.inr ⟨o, e⟩)
  · exact .inr f
def isKey (k : Key) (d : D) : Prop := match k with
  | .inl i => d = .int i
  | .inr x => d = .str x
/-- a dict's entries -/
def RKs (K : PySem.W.Frag) (loc : List Addr) (H : Hp) : List (Str × D) → List (L2.Key × V) → Prop
  | [], ks => ks = []
  | e :: r, ks => ∃ v t, ks = ((Sum.inr e.1 : L2.Key), v) :: t ∧ RD K loc H e.2 v ∧ RKs K loc H r t
def OR (K : PySem.W.Frag) (loc : List Addr) (H : Hp) (a : Addr) : MO → Prop
  | .lst ds => ∃ vs, H a = some (.lst vs) ∧ RDs K loc H ds vs
  | .frz ds => ∃ vs, Fz K H a vs ∧ RDs K loc H ds vs
  | .dic kvs => ∃ ks, H a = some (.dK ks) ∧ RKs K loc H kvs ks
def mutO : MO → Bool
  | .frz _ => false
  | _ => true
structure RH (K : PySem.W.Frag) (loc : List Addr) (H : Hp) (h : Hh) : Prop where
  len : loc.length = h.length
  ob : ∀ (n : Nat) (o : MO), h[n]? = some o → ∃ a : Addr, loc[n]? = some a ∧ OR K loc H a o
  inj : ∀ (i j : Nat) (a : Addr) (oi oj : MO), h[i]? = some oi → h[j]? = some oj → mutO oi = true → mutO oj = true → loc[i]? = some a → loc[j]? = some a → i = j
/-- a later state -/
structure Xt (K : PySem.W.Frag) (loc : List Addr) (H : Hp) (loc' : List Addr) (H' : Hp) : Prop where
  tp : ∀ a xs, SqT K H a xs → SqT K H' a xs
  tb : ∀ a, BareT K H a → BareT K H' a
  fz : ∀ a xs, Fz K H a xs → Fz K H' a xs
  lc : ∀ (n : Nat) (a : Addr), loc[n]? = some a → loc'[n]? = some a
section
variable {K : PySem.W.Frag} {loc loc' loc2 : List Addr} {H H' H2 : Hp} {h h' : Hh}
theorem Xt.refl : Xt K loc H loc H := ⟨fun _ _ q => q, fun _ q => q, fun _ _ q => q, fun _ _ q => q⟩
theorem Xt.trans (a : Xt K loc H loc' H') (b : Xt K loc' H' loc2 H2) : Xt K loc H loc2 H2 := ⟨fun _ _ q => b.tp _ _ (a.tp _ _ q), fun _ q => b.tb _ (a.tb _ q), fun _ _ q => b.fz _ _ (a.fz _ _ q), fun _ _ q => b.lc _ _ (a.lc _ _ q)⟩
mutual
theorem RD.mono (x : Xt K loc H loc' H') : ∀ (d : D) (v : V), RD K loc H d v → RD K loc' H' d v
  | .non, v, r => by rw [RD] at r ⊢; exact r
  | .bl b, v, r => by rw [RD] at r ⊢; exact r
  | .int i, v, r => by rw [RD] at r ⊢; exact r
  | .str z, v, r => by rw [RD] at r ⊢; exact r
  | .tup ds, v, r => by
    rw [RD] at r ⊢
    obtain ⟨a, vs, e, s, b, q⟩ := r
    exact ⟨a, vs, e, x.tp _ _ s, x.tb _ b, RDs.mono x ds vs q⟩
  | .ref n, v, r => by
    rw [RD] at r ⊢
    obtain ⟨a, e, q⟩ := r
    exact ⟨a, e, x.lc _ _ q⟩
  | .fn a, v, r => by rw [RD] at r ⊢; exact r
theorem RDs.mono (x : Xt K loc H loc' H') : ∀ (ds : List D) (vs : List V), RDs K loc H ds vs → RDs K loc' H' ds vs
  | [], vs, r => by rw [RDs] at r ⊢; exact r
  | d :: ds, vs, r => by
    rw [RDs] at r ⊢
    obtain ⟨v, t, e, q1, q2⟩ := r
    exact ⟨v, t, e, RD.mono x d v q1, RDs.mono x ds t q2⟩
end
theorem RKs.mono (x : Xt K loc H loc' H') : ∀ (kvs : List (Str × D)) (ks : List (L2.Key × V)), RKs K loc H kvs ks → RKs K loc' H' kvs ks
  | [], _, r => r
  | e :: r, ks, q => by
    obtain ⟨v, t, e1, q1, q2⟩ := q
    exact ⟨v, t, e1, q1.mono x, RKs.mono x r t q2⟩
theorem RKs.length : ∀ {kvs : List (Str × D)} {ks : List (L2.Key × V)}, RKs K loc H kvs ks → ks.length = kvs.length
  | [], _, r => by rw [show _ = [] from r]; rfl
  | e :: r, ks, q => by
    obtain ⟨v, t, rfl, q1, q2⟩ := q
    simp [q2.length]
theorem RKs.val : ∀ {kvs : List (Str × D)} {ks : List (L2.Key × V)}, RKs K loc H kvs ks → ∀ x : Str, (lkD kvs x = none ∧ valV ks (Sum.inr x : L2.Key) = none) ∨ ∃ d v, lkD kvs x = some d ∧ valV ks (Sum.inr x : L2.Key) = some v ∧ RD K loc H d v
  | [], _, r, x => by rw [show _ = [] from r]; exact .inl ⟨rfl, rfl⟩
  | e :: r, ks, q, x => by
    obtain ⟨v, t, rfl, q1, q2⟩ := q
    unfold lkD
    by_cases h : e.1 = x
    · rw [if_pos (strEq_iff.mpr h), valV_pos (by rw [h])]
      exact .inr ⟨_, _, rfl, rfl, q1⟩
    · rw [if_neg (fun z => h (strEq_iff.mp z)), valV_neg (fun z => h (Sum.inr.inj z))]
      exact q2.val x
theorem RKs.any : ∀ {kvs : List (Str × D)} {ks : List (L2.Key × V)}, RKs K loc H kvs ks → ∀ x : Str, (ks.any fun kv => decide (kv.1 = (Sum.inr x : L2.Key))) = kvs.any fun kv => strEq kv.1 x
  | [], _, r, x => by rw [show _ = [] from r]; rfl
  | e :: r, ks, q, x => by
    obtain ⟨v, t, rfl, q1, q2⟩ := q
    rw [List.any_cons, List.any_cons, q2.any x]
    congr 1
    rw [strEq_dec]
    by_cases h : e.1 = x
    · simp [h]
    · rw [decide_eq_false (fun z => h (Sum.inr.inj z)), decide_eq_false h]
theorem RKs.mapSet {x : Str} {d : D} {v : V} (rv : RD K loc H d v) : ∀ {kvs : List (Str × D)} {ks : List (L2.Key × V)}, RKs K loc H kvs ks → RKs K loc H (kvs.map fun kv => if strEq kv.1 x then (kv.1, d) else kv) (ks.map fun kv => if kv.1 = (Sum.inr x : L2.Key) then (kv.1, v) else kv)
  | [], _, r => by rw [show _ = [] from r]; rfl
  | e :: r, ks, q => by
    obtain ⟨w, t, rfl, q1, q2⟩ := q
    by_cases h : e.1 = x
    · rw [List.map_cons, List.map_cons, if_pos (strEq_iff.mpr h), if_pos (by rw [h])]
      exact ⟨_, _, rfl, rv, RKs.mapSet rv q2⟩
    · rw [List.map_cons, List.map_cons, if_neg (fun z => h (strEq_iff.mp z)), if_neg (fun z => h (Sum.inr.inj z))]
      exact ⟨_, _, rfl, q1, RKs.mapSet rv q2⟩
theorem RKs.append : ∀ {kvs es : List (Str × D)} {ks ls : List (L2.Key × V)}, RKs K loc H kvs ks → RKs K loc H es ls → RKs K loc H (kvs ++ es) (ks ++ ls)
  | [], _, _, _, r, q => by rw [show _ = [] from r]; exact q
  | e :: r, es, ks, ls, q, q' => by
    obtain ⟨w, t, rfl, q1, q2⟩ := q
    exact ⟨_, _, rfl, q1, q2.append q'⟩
theorem RKs.put {kvs : List (Str × D)} {ks : List (L2.Key × V)} (r : RKs K loc H kvs ks) (x : Str) {d : D} {v : V} (rv : RD K loc H d v) : RKs K loc H (putD kvs x d) (putK ks (Sum.inr x : L2.Key) v) := by
  unfold putD putK
  rw [r.any x]
  by_cases h : (kvs.any fun kv => strEq kv.1 x) = true
  · rw [if_pos h, if_pos h]
    exact RKs.mapSet rv r
  · rw [if_neg h, if_neg h]
    exact r.append ⟨_, _, rfl, rv, rfl⟩
theorem RKs.merge : ∀ {es : List (Str × D)} {ls : List (L2.Key × V)} {kvs : List (Str × D)} {ks : List (L2.Key × V)}, RKs K loc H es ls → RKs K loc H kvs ks → RKs K loc H (mergeD kvs es) (mergeK ks ls)
  | [], _, _, _, r, q => by rw [show _ = [] from r]; exact q
  | e :: es, ls, kvs, ks, r, q => by
    obtain ⟨w, t, rfl, q1, q2⟩ := r
    show RKs K loc H (mergeD (putD kvs e.1 e.2) es) (mergeK (putK ks (Sum.inr e.1) w) t)
    exact RKs.merge q2 (q.put e.1 q1)
theorem RDs.nil : RDs K loc H [] [] := by rw [RDs]
theorem RDs.cons {d : D} {v : V} {ds : List D} {vs : List V} (a : RD K loc H d v) (b : RDs K loc H ds vs) : RDs K loc H (d :: ds) (v :: vs) := by rw [RDs]; exact ⟨v, vs, rfl, a, b⟩
theorem RDs.length : ∀ {ds : List D} {vs : List V}, RDs K loc H ds vs → vs.length = ds.length
  | [], vs, r => by rw [RDs] at r; rw [r]; rfl
  | d :: ds, vs, r => by
    rw [RDs] at r
    obtain ⟨v, t, rfl, _, q⟩ := r
    simp [q.length]
theorem RDs.at_ : ∀ {ds : List D} {vs : List V}, RDs K loc H ds vs → ∀ {i : Nat} {d : D}, ds[i]? = some d → ∃ v, vs[i]? = some v ∧ RD K loc H d v
  | [], _, _, _, _, e => by simp at e
  | d :: ds, vs, r, 0, _, e => by
    rw [RDs] at r
    obtain ⟨v, t, rfl, q1, _⟩ := r
    simp at e
    subst e
    exact ⟨v, rfl, q1⟩
  | d :: ds, vs, r, i + 1, _, e => by
    rw [RDs] at r
    obtain ⟨v, t, rfl, _, q⟩ := r
    exact q.at_ (i := i) (by simpa using e)
theorem RDs.of : ∀ {ds : List D} {vs : List V}, vs.length = ds.length → (∀ (i : Nat) (v : V) (d : D), vs[i]? = some v → ds[i]? = some d → RD K loc H d v) → RDs K loc H ds vs
  | [], vs, e, _ => by rw [RDs]; exact List.length_eq_zero_iff.mp e
  | d :: ds, [], e, _ => by simp at e
  | d :: ds, v :: vs, e, q => .cons (q 0 v d rfl rfl) (RDs.of (by simpa using e) fun i w f a b => q (i + 1) w f (by simpa using a) (by simpa using b))
theorem RDs.pt {ds : List D} {vs : List V} (r : RDs K loc H ds vs) {i : Nat} {v : V} {d : D} (a : vs[i]? = some v) (b : ds[i]? = some d) : RD K loc H d v := by
  obtain ⟨w, e, q⟩ := r.at_ b
  rw [a] at e
  cases e
  exact q
theorem RDs.append {ds es : List D} {vs ws : List V} (r : RDs K loc H ds vs) (q : RDs K loc H es ws) : RDs K loc H (ds ++ es) (vs ++ ws) := by
  have l1 := r.length
  have l2 := q.length
  refine RDs.of (by simp [l1, l2]) fun i v d a b => ?_
  by_cases hi : i < ds.length
  · rw [List.getElem?_append_left (by omega)] at a b
    exact r.pt a b
  · rw [List.getElem?_append_right (by omega)] at a b
    rw [l1] at a
    exact q.pt a b
theorem RDs.take {ds : List D} {vs : List V} (r : RDs K loc H ds vs) (n : Nat) : RDs K loc H (ds.take n) (vs.take n) := by
  have l1 := r.length
  refine RDs.of (by simp [l1]) fun i v d a b => ?_
  rw [List.getElem?_take] at a b
  split at a
  · rename_i h
    rw [if_pos h] at b
    exact r.pt a b
  · cases a
theorem RDs.drop {ds : List D} {vs : List V} (r : RDs K loc H ds vs) (n : Nat) : RDs K loc H (ds.drop n) (vs.drop n) := by
  have l1 := r.length
  refine RDs.of (by simp [l1]) fun i v d a b => ?_
  rw [List.getElem?_drop] at a b
  exact r.pt a b
theorem RDs.set {ds : List D} {vs : List V} (r : RDs K loc H ds vs) (n : Nat) {d : D} {v : V} (q : RD K loc H d v) : RDs K loc H (ds.set n d) (vs.set n v) := by
  have l1 := r.length
  refine RDs.of (by simp [l1]) fun i w f a b => ?_
  rw [List.getElem?_set] at a b
  split at a
  · rename_i h
    rw [if_pos h] at b
    split at a
    · rename_i h2
      rw [if_pos (by omega)] at b
      cases a
      cases b
      exact q
    · cases a
  · rename_i h
    rw [if_neg h] at b
    exact r.pt a b
theorem RDs.eraseIdx {ds : List D} {vs : List V} (r : RDs K loc H ds vs) (n : Nat) : RDs K loc H (ds.eraseIdx n) (vs.eraseIdx n) := by
  have l1 := r.length
  rw [List.eraseIdx_eq_take_drop_succ, List.eraseIdx_eq_take_drop_succ]
  exact (r.take n).append (r.drop (n + 1))
theorem RDs.dropLast {ds : List D} {vs : List V} (r : RDs K loc H ds vs) : RDs K loc H ds.dropLast vs.dropLast := by
  have l1 := r.length
  rw [List.dropLast_eq_take, List.dropLast_eq_take, l1]
  exact r.take _
theorem RDs.rep {ds : List D} {vs : List V} (r : RDs K loc H ds vs) : ∀ n : Nat, RDs K loc H (List.replicate n ds).flatten (List.replicate n vs).flatten
  | 0 => RDs.nil
  | n + 1 => by
    rw [List.replicate_succ, List.replicate_succ, List.flatten_cons, List.flatten_cons]
    exact r.append (r.rep n)
theorem RDs.isEmpty {ds : List D} {vs : List V} (r : RDs K loc H ds vs) : vs.isEmpty = ds.isEmpty := by
  have l1 := r.length
  cases ds <;> cases vs <;> simp at l1 <;> rfl

/-! ### the heap's steps -/
theorem sqt_upd {a p : Addr} {xs : List V} {o : HO} (hp : H p = none ∨ (∃ vs, H p = some (.lst vs)) ∨ ∃ kvs, H p = some (.dK kvs)) (q : SqT K H a xs) : SqT K (upd H p o) a xs := by
  rcases q with (q | ⟨ob, q⟩) | q
  · refine .inl (.inl ?_)
    have : a ≠ p := by
      rintro rfl
      rcases hp with e | ⟨_, e⟩ | ⟨_, e⟩ <;> (rw [q] at e; cases e)
    rw [upd_ne this]
    exact q
  · refine .inl (.inr ⟨ob, ?_⟩)
    have : a ≠ p := by
      rintro rfl
      rcases hp with e | ⟨_, e⟩ | ⟨_, e⟩ <;> (rw [q] at e; cases e)
    rw [upd_ne this]
    exact q
  · exact .inr q
theorem bare_upd {a p : Addr} {o : HO} (hp : H p = none ∨ (∃ vs, H p = some (.lst vs)) ∨ ∃ kvs, H p = some (.dK kvs)) (q : BareT K H a) : BareT K (upd H p o) a := by
  rcases q with ⟨ob, u, q, d⟩ | q
  · refine .inl ⟨ob, u, ?_, d⟩
    rw [upd_ne (by
      rintro rfl
      rcases hp with e | ⟨_, e⟩ | ⟨_, e⟩ <;> (rw [q] at e; cases e))]
    exact q
  · exact .inr q
theorem fz_upd {a p : Addr} {xs : List V} {o : HO} (hp : H p = none ∨ (∃ vs, H p = some (.lst vs)) ∨ ∃ kvs, H p = some (.dK kvs)) (q : Fz K H a xs) : Fz K (upd H p o) a xs := by
  rcases q with ⟨ob, q⟩ | q
  · refine .inl ⟨ob, ?_⟩
    have : a ≠ p := by
      rintro rfl
      rcases hp with e | ⟨_, e⟩ | ⟨_, e⟩ <;> (rw [q] at e; cases e)
    rw [upd_ne this]
    exact q
  · exact .inr q
theorem RH.mutH (r : RH K loc H h) {n : Nat} {o : MO} {a : Addr} (e : h[n]? = some o) (m : mutO o = true) (l : loc[n]? = some a) : (∃ vs, H a = some (.lst vs)) ∨ ∃ kvs, H a = some (.dK kvs) := by
  obtain ⟨b, l2, q⟩ := r.ob n o e
  rw [l] at l2
  cases l2
  cases o with
  | lst ds => obtain ⟨vs, e, _⟩ := q; exact .inl ⟨vs, e⟩
  | frz ds => cases m
  | dic kvs => obtain ⟨ks, e, _⟩ := q; exact .inr ⟨ks, e⟩
theorem RH.notin (r : RH K loc H h) {p : Addr} (hp : H p = none) {n : Nat} {o : MO} {a : Addr} (e : h[n]? = some o) (m : mutO o = true) (l : loc[n]? = some a) : a ≠ p := by
  rintro rfl
  rcases r.mutH e m l with ⟨_, q⟩ | ⟨_, q⟩ <;> (rw [hp] at q; cases q)
/-- the objects but one, behind a store at p -/
theorem OR.step {a p : Addr} {o : MO} {u : HO} (hp : H p = none ∨ (∃ vs, H p = some (.lst vs)) ∨ ∃ kvs, H p = some (.dK kvs)) (hap : mutO o = true → a ≠ p) (x : Xt K loc H loc' (upd H p u)) (q : OR K loc H a o) : OR K loc' (upd H p u) a o := by
  cases o with
  | lst ds =>
    obtain ⟨vs, e, r⟩ := q
    exact ⟨vs, by rw [upd_ne (hap rfl)]; exact e, r.mono x⟩
  | frz ds =>
    obtain ⟨vs, e, r⟩ := q
    exact ⟨vs, fz_upd hp e, r.mono x⟩
  | dic kvs =>
    obtain ⟨vs, e, r⟩ := q
    exact ⟨vs, by rw [upd_ne (hap rfl)]; exact e, RKs.mono x _ _ r⟩
theorem Xt.new {p : Addr} {u : HO} (hp : H p = none) : Xt K loc H (loc ++ [p]) (upd H p u) :=
  ⟨fun a xs q => sqt_upd (.inl hp) q, fun a q => bare_upd (.inl hp) q, fun a xs q => fz_upd (.inl hp) q, fun n a q => by
    obtain ⟨hl, _⟩ := List.getElem?_eq_some_iff.mp q
    rw [List.getElem?_append_left hl]
    exact q⟩
theorem Xt.hid {p : Addr} {u : HO} (hp : H p = none ∨ (∃ vs, H p = some (.lst vs)) ∨ ∃ kvs, H p = some (.dK kvs)) : Xt K loc H loc (upd H p u) := ⟨fun a xs q => sqt_upd hp q, fun a q => bare_upd hp q, fun a xs q => fz_upd hp q, fun _ _ q => q⟩
/-- a tuple is laid: no object of ours -/
theorem RH.hid (r : RH K loc H h) {p : Addr} {u : HO} (hp : H p = none) : RH K loc (upd H p u) h where
  len := r.len
  ob := fun n o e => by
    obtain ⟨a, l, q⟩ := r.ob n o e
    exact ⟨a, l, q.step (.inl hp) (fun m => r.notin hp e m l) (Xt.hid (.inl hp))⟩
  inj := r.inj
theorem RH.newO (r : RH K loc H h) {p : Addr} {u : HO} {o0 : MO} (hp : H p = none) (q : OR K (loc ++ [p]) (upd H p u) p o0) : RH K (loc ++ [p]) (upd H p u) (h ++ [o0]) where
  len := by simp [r.len]
  ob := fun n o e => by
    by_cases hn : n < h.length
    · rw [List.getElem?_append_left hn] at e
      obtain ⟨a, l, q2⟩ := r.ob n o e
      exact ⟨a, (Xt.new (K := K) (u := u) hp).lc _ _ l, q2.step (.inl hp) (fun m => r.notin hp e m l) (Xt.new hp)⟩
    · rw [List.getElem?_append_right (by omega)] at e
      have hn2 : n = h.length := by
        by_cases z : n - h.length = 0
        · omega
        · rw [List.getElem?_eq_none (by simp; omega)] at e
          cases e
      subst hn2
      simp at e
      subst e
      exact ⟨p, by rw [← r.len]; simp, q⟩
  inj := fun i j a oi oj ei ej mi mj li lj => by
    have key : ∀ (n : Nat) (o : MO), (h ++ [o0])[n]? = some o → (n < h.length ∧ h[n]? = some o) ∨ n = h.length := fun n o e => by
      by_cases hn : n < h.length
      · rw [List.getElem?_append_left hn] at e
        exact .inl ⟨hn, e⟩
      · rw [List.getElem?_append_right (by omega)] at e
        right
        by_cases z : n - h.length = 0
        · omega
        · rw [List.getElem?_eq_none (by simp; omega)] at e
          cases e
    have lk : ∀ (n : Nat) (a : Addr), n < h.length → (loc ++ [p])[n]? = some a → loc[n]? = some a := fun n a hn e => by
      rw [List.getElem?_append_left (by rw [r.len]; exact hn)] at e
      exact e
    have lp : ∀ a : Addr, (loc ++ [p])[h.length]? = some a → a = p := fun a e => by
      rw [← r.len] at e
      simp at e
      exact e.symm
    rcases key i oi ei with ⟨hi, ei'⟩ | hi <;> rcases key j oj ej with ⟨hj, ej'⟩ | hj
    · exact r.inj i j a oi oj ei' ej' mi mj (lk _ _ hi li) (lk _ _ hj lj)
    · subst hj
      have := lp _ lj
      subst this
      exact absurd rfl (r.notin hp ei' mi (lk _ _ hi li))
    · subst hi
      have := lp _ li
      subst this
      exact absurd rfl (r.notin hp ej' mj (lk _ _ hj lj))
    · omega
theorem RH.new (r : RH K loc H h) {p : Addr} {vs : List V} {ds : List D} (hp : H p = none) (q : RDs K loc H ds vs) : RH K (loc ++ [p]) (upd H p (.lst vs)) (h ++ [.lst ds]) := r.newO hp ⟨vs, upd_same, q.mono (Xt.new hp)⟩
theorem RH.newD (r : RH K loc H h) {p : Addr} {ks : List (L2.Key × V)} {kvs : List (Str × D)} (hp : H p = none) (q : RKs K loc H kvs ks) : RH K (loc ++ [p]) (upd H p (.dK ks)) (h ++ [.dic kvs]) := r.newO hp ⟨ks, upd_same, RKs.mono (Xt.new hp) _ _ q⟩
theorem RH.setO (r : RH K loc H h) {n : Nat} {a : Addr} {u : HO} {old o0 : MO} (e : h[n]? = some old) (mo0 : mutO old = true) (mo1 : mutO o0 = true) (l : loc[n]? = some a) (q : OR K loc (upd H a u) a o0) : RH K loc (upd H a u) (h.set n o0) := by
  have hm := r.mutH e mo0 l
  have hx : Xt K loc H loc (upd H a u) := Xt.hid (.inr hm)
  have hn : n < h.length := (List.getElem?_eq_some_iff.mp e).1
  refine ⟨by simp [r.len], fun m o e2 => ?_, fun i j b oi oj ei ej mi mj li lj => ?_⟩
  · by_cases hmn : n = m
    · subst hmn
      rw [List.getElem?_set_self hn] at e2
      cases e2
      exact ⟨a, l, q⟩
    · rw [List.getElem?_set_ne hmn] at e2
      obtain ⟨b, lb, q2⟩ := r.ob m o e2
      refine ⟨b, lb, q2.step (.inr hm) (fun mo => ?_) hx⟩
      rintro rfl
      exact hmn (r.inj n m b _ o e e2 mo0 mo l lb)
  · have key : ∀ (m : Nat) (o : MO), (h.set n o0)[m]? = some o → mutO o = true → ∃ o', h[m]? = some o' ∧ mutO o' = true := fun m o e2 m2 => by
      by_cases hmn : n = m
      · subst hmn
        exact ⟨_, e, mo0⟩
      · rw [List.getElem?_set_ne hmn] at e2
        exact ⟨o, e2, m2⟩
    obtain ⟨oi', ei', mi'⟩ := key i oi ei mi
    obtain ⟨oj', ej', mj'⟩ := key j oj ej mj
    exact r.inj i j b oi' oj' ei' ej' mi' mj' li lj
theorem RH.set (r : RH K loc H h) {n : Nat} {a : Addr} {vs : List V} {ds old : List D} (e : h[n]? = some (.lst old)) (l : loc[n]? = some a) (q : RDs K loc H ds vs) : RH K loc (upd H a (.lst vs)) (h.set n (.lst ds)) :=
  r.setO e rfl rfl l ⟨vs, upd_same, q.mono (Xt.hid (.inr (r.mutH e rfl l)))⟩
theorem RH.setD (r : RH K loc H h) {n : Nat} {a : Addr} {ks : List (L2.Key × V)} {kvs old : List (Str × D)} (e : h[n]? = some (.dic old)) (l : loc[n]? = some a) (q : RKs K loc H kvs ks) : RH K loc (upd H a (.dK ks)) (h.set n (.dic kvs)) :=
  r.setO e rfl rfl l ⟨ks, upd_same, RKs.mono (Xt.hid (.inr (r.mutH e rfl l))) _ _ q⟩
/-- a dict of ours, read -/
theorem RH.dic (r : RH K loc H h) {n : Nat} {kvs : List (Str × D)} {v : V} (e : h[n]? = some (.dic kvs)) (q : RD K loc H (.ref n) v) : ∃ a ks, v = .ref a ∧ loc[n]? = some a ∧ H a = some (.dK ks) ∧ RKs K loc H kvs ks := by
  rw [RD] at q
  obtain ⟨a, rfl, l⟩ := q
  obtain ⟨b, l2, vs, e2, q2⟩ := r.ob n _ e
  rw [l] at l2
  cases l2
  exact ⟨a, vs, rfl, l, e2, q2⟩
/-- a list of ours, read -/
theorem RH.lst (r : RH K loc H h) {n : Nat} {ds : List D} {v : V} (e : h[n]? = some (.lst ds)) (q : RD K loc H (.ref n) v) : ∃ a vs, v = .ref a ∧ loc[n]? = some a ∧ H a = some (.lst vs) ∧ RDs K loc H ds vs := by
  rw [RD] at q
  obtain ⟨a, rfl, l⟩ := q
  obtain ⟨b, l2, vs, e2, q2⟩ := r.ob n _ e
  rw [l] at l2
  cases l2
  exact ⟨a, vs, rfl, l, e2, q2⟩
/-- what a sequence holds, read -/
theorem RH.seq (r : RH K loc H h) {d : D} {ds : List D} {v : V} (e : seqOf h d = some ds) (q : RD K loc H d v) : ∃ a vs, v = .ref a ∧ RDs K loc H ds vs ∧ ((SqT K H a vs ∧ d = .tup ds) ∨ SqL K H a vs ∧ ∃ n, d = .ref n) := by
  cases d with
  | tup xs =>
    cases e
    rw [RD] at q
    obtain ⟨a, vs, e, s, _, q⟩ := q
    exact ⟨a, vs, e, q, .inl ⟨s, rfl⟩⟩
  | ref n =>
    simp only [seqOf] at e
    rw [RD] at q
    obtain ⟨a, rfl, l⟩ := q
    cases hn : h[n]? with
    | none => rw [hn] at e; cases e
    | some o =>
      rw [hn] at e
      obtain ⟨b, l2, q2⟩ := r.ob n _ hn
      rw [l] at l2
      cases l2
      cases o with
      | lst xs =>
        cases e
        obtain ⟨vs, e2, q3⟩ := q2
        exact ⟨a, vs, rfl, q3, .inr ⟨SqL.of e2, n, rfl⟩⟩
      | frz xs =>
        cases e
        obtain ⟨vs, e2, q3⟩ := q2
        exact ⟨a, vs, rfl, q3, .inr ⟨e2.sq, n, rfl⟩⟩
      | dic kvs => cases e
  | _ => cases e
end

/-! ### slots -/
/-- an earlier state; how many slots -/
structure BB where
  n : Nat
  loc : List Addr
  H : Hp
def RS (bb : BB) (K : PySem.W.Frag) (loc : List Addr) (H : Hp) (σ : Sg) (s : L2.St) : Prop := s.length = σ.length ∧ (∀ (i : Nat) (d : D), σ[i]? = some (some d) → ∃ v, s[i]? = some (some v) ∧ RD K loc H d v) ∧ Xt K bb.loc bb.H loc H ∧ σ.length = bb.n
section
variable {bb : BB} {K : PySem.W.Frag} {loc loc' : List Addr} {H H' : Hp} {σ : Sg} {s : L2.St}
theorem RS.mono (x : Xt K loc H loc' H') (r : RS bb K loc H σ s) : RS bb K loc' H' σ s := ⟨r.1, fun i d e => by
  obtain ⟨v, e2, q⟩ := r.2.1 i d e
  exact ⟨v, e2, q.mono x⟩, r.2.2.1.trans x, r.2.2.2⟩
theorem RS.set (r : RS bb K loc H σ s) (i : Nat) {d : D} {v : V} (q : RD K loc H d v) : RS bb K loc H (σ.set i (some d)) (s.set i (some v)) := by
  refine ⟨by simp [r.1], fun j e a => ?_, r.2.2.1, by rw [List.length_set]; exact r.2.2.2⟩
  have hl := r.1
  rw [List.getElem?_set] at a ⊢
  split at a
  · rename_i hij
    rw [if_pos hij]
    split at a
    · rename_i h2
      rw [if_pos (by omega)]
      cases a
      exact ⟨v, rfl, q⟩
    · cases a
  · rename_i hij
    rw [if_neg hij]
    exact r.2.1 j e a
theorem RS.wipe (r : RS bb K loc H σ s) : ∀ vs : List Nat, RS bb K loc H (wipes σ vs) (L2.wipe s vs)
  | [] => r
  | v :: vs => by
    have q := r.wipe vs
    unfold wipes L2.wipe
    have hl := q.1
    refine ⟨by simp [hl], fun j e a => ?_, q.2.2.1, by rw [List.length_set]; exact q.2.2.2⟩
    rw [List.getElem?_set] at a ⊢
    split at a
    · split at a <;> cases a
    · rename_i hij
      rw [if_neg hij]
      exact q.2.1 j e a
end

/-! ### readings lifted -/
section
variable (bb : BB) (K : PySem.W.Frag)
def Kx (loc : List Addr) (H : Hp) (Q' : Kd) (Q : VK) : Prop := ∀ d h' v H' loc', Q' d h' → Xt K loc H loc' H' → RH K loc' H' h' → RD K loc' H' d v → Q v H'
def KxB (loc : List Addr) (H : Hp) (Q' : Bool → Hh → Prop) (Q : Bool → Hp → Prop) : Prop := ∀ b h' H' loc', Q' b h' → Xt K loc H loc' H' → RH K loc' H' h' → Q b H'
def KxL (loc : List Addr) (H : Hp) (Q' : List D → Hh → Prop) (Q : List V → Hp → Prop) : Prop := ∀ ds h' vs H' loc', Q' ds h' → Xt K loc H loc' H' → RH K loc' H' h' → RDs K loc' H' ds vs → Q vs H'
def KxS (loc : List Addr) (H : Hp) (Q' : Sg → Hh → Prop) (Q : L2.St → Hp → Prop) : Prop := ∀ σ' h' s' H' loc', Q' σ' h' → Xt K loc H loc' H' → RH K loc' H' h' → RS bb K loc' H' σ' s' → Q s' H'
def lfE (t : Sg → Hh → Kd → Prop) : TE := fun s H Q => ∃ loc σ h Q', RS bb K loc H σ s ∧ RH K loc H h ∧ t σ h Q' ∧ Kx K loc H Q' Q
def lfT (t : Sg → Hh → (Bool → Hh → Prop) → Prop) : TT := fun s H Q => ∃ loc σ h Q', RS bb K loc H σ s ∧ RH K loc H h ∧ t σ h Q' ∧ KxB K loc H Q' Q
def lfA (t : Sg → Hh → (List D → Hh → Prop) → Prop) : TA := fun s H Q => ∃ loc σ h Q', RS bb K loc H σ s ∧ RH K loc H h ∧ t σ h Q' ∧ KxL K loc H Q' Q
def lfG (t : D → Sg → Hh → (Sg → Hh → Prop) → Prop) : TG := fun v s H Q => ∃ loc d σ h Q', RD K loc H d v ∧ RS bb K loc H σ s ∧ RH K loc H h ∧ t d σ h Q' ∧ KxS bb K loc H Q' Q
/-- an iterator that walks what stands -/
structure SnapJ (J : It) (xs : List D) (loc : List Addr) (H : Hp) : Prop where
  stop : ∀ (i : Nat) (loc' : List Addr) (H' : Hp), xs[i]? = none → Xt K loc H loc' H' → J.stop i H'
  go : ∀ (i : Nat) (d : D) (loc' : List Addr) (H' : Hp), xs[i]? = some d → Xt K loc H loc' H' → J.go i H'
  yld : ∀ (i : Nat) (d : D) (loc' : List Addr) (H' : Hp) (x : V) (H2 : Hp) (h : Hh), xs[i]? = some d → Xt K loc H loc' H' → RH K loc' H' h → J.yld i H' x H2 → ∃ loc2, Xt K loc' H' loc2 H2 ∧ RH K loc2 H2 h ∧ RD K loc2 H2 d x
def WkJ (J : It) (loc : List Addr) (H : Hp) : MW → Prop
  | .snap xs => SnapJ K J xs loc H
  | .live n => ∃ a, J = Itl K a ∧ loc[n]? = some a
def KxI (loc : List Addr) (H : Hp) (Q' : MW → Hh → Prop) (R : It → Hp → Prop) : Prop := ∀ w h' J H' loc', Q' w h' → Xt K loc H loc' H' → RH K loc' H' h' → WkJ K J loc' H' w → R J H'
def lfI (t : Sg → Hh → (MW → Hh → Prop) → Prop) : TI := fun s H R => ∃ loc σ h Q', RS bb K loc H σ s ∧ RH K loc H h ∧ t σ h Q' ∧ KxI K loc H Q' R
structure KxR (loc : List Addr) (H : Hp) (R : Es) (E : Ends) : Prop where
  nx : KxS bb K loc H R.nx E.nx
  rt : Kx K loc H R.rt E.rt
  bk : KxS bb K loc H R.bk E.bk
  ct : KxS bb K loc H R.ct E.ct
def lfS (t : Es → Sg → Hh → Prop) : TS := fun E s H => ∃ loc σ h R, RS bb K loc H σ s ∧ RH K loc H h ∧ t R σ h ∧ KxR bb K loc H R E
/-- an error's fields -/
def RXs (loc : List Addr) (H : Hp) (kvs : List (Str × D)) (xd : List (Str × V)) : Prop := ∀ (n : Str) (z : D), lkD kvs n = some z → ∃ v, xd.lookup n = some v ∧ RD K loc H z v
/-- the errors' ends -/
def KxX (mg : Str → Option Value) (loc : List Addr) (H : Hp) (X' : Ex) (E : XK) : Prop := ∀ x kvs h' H1 loc' (d : Addr) (C : Addr) xd, X' x kvs h' → mg x = some (.ref C) → Xt K loc H loc' H1 → RH K loc' H1 h' → RXs K loc' H1 kvs xd → H1 d = none → E (.ref C) (some d) (upd H1 d (.xd xd))
/-- a def's promise -/
def lfP (mg : Str → Option Value) (C : List D → Hh → Kd → Ex → Prop) : Sp := fun vs H Q E => ∃ loc ds h Q' X', RDs K loc H ds vs ∧ RH K loc H h ∧ C ds h Q' X' ∧ Kx K loc H Q' Q ∧ KxX K mg loc H X' E
end
section
variable {bb : BB} {K : PySem.W.Frag} {loc loc' : List Addr} {H H' : Hp} {Q' : Kd} {Q : VK}
theorem Kx.mono (k : Kx K loc H Q' Q) (x : Xt K loc H loc' H') : Kx K loc' H' Q' Q := fun d h' v H2 loc2 q y => k d h' v H2 loc2 q (x.trans y)
theorem KxB.mono {Q' : Bool → Hh → Prop} {Q : Bool → Hp → Prop} (k : KxB K loc H Q' Q) (x : Xt K loc H loc' H') : KxB K loc' H' Q' Q := fun d h' H2 loc2 q y => k d h' H2 loc2 q (x.trans y)
theorem KxL.mono {Q' : List D → Hh → Prop} {Q : List V → Hp → Prop} (k : KxL K loc H Q' Q) (x : Xt K loc H loc' H') : KxL K loc' H' Q' Q := fun d h' v H2 loc2 q y => k d h' v H2 loc2 q (x.trans y)
theorem KxS.mono {Q' : Sg → Hh → Prop} {Q : L2.St → Hp → Prop} (k : KxS bb K loc H Q' Q) (x : Xt K loc H loc' H') : KxS bb K loc' H' Q' Q := fun d h' v H2 loc2 q y => k d h' v H2 loc2 q (x.trans y)
theorem KxX.mono {mg : Str → Option Value} {X' : Ex} {E : XK} (k : KxX K mg loc H X' E) (x : Xt K loc H loc' H') : KxX K mg loc' H' X' E := fun y kvs h' H2 loc2 d C xd q m z => k y kvs h' H2 loc2 d C xd q m (x.trans z)
theorem KxR.mono {R : Es} {E : Ends} (k : KxR bb K loc H R E) (x : Xt K loc H loc' H') : KxR bb K loc' H' R E := ⟨k.nx.mono x, k.rt.mono x, k.bk.mono x, k.ct.mono x⟩
end
end Mi

set_option Elab.async false
set_option linter.all false
set_option maxRecDepth 100000
set_option maxHeartbeats 1000000
/-! Mi: its operations are the layer's. -/
namespace Mi
open PySem PySem.Spec PyProof.Rows L2

section
variable {K : PySem.W.Frag} {loc : List Addr} {H : Hp} {v : V}
theorem RD.non_ (r : RD K loc H .non v) : v = .non := by rw [RD] at r; exact r
theorem RD.bl_ {b : Bool} (r : RD K loc H (.bl b) v) : v = .bl b := by rw [RD] at r; exact r
theorem RD.int_ {i : Int} (r : RD K loc H (.int i) v) : v = .int i := by rw [RD] at r; exact r
theorem RD.str_ {x : Str} (r : RD K loc H (.str x) v) : v = .str x := by rw [RD] at r; exact r
theorem RD.tupB {ds : List D} (r : RD K loc H (.tup ds) v) : ∃ a vs, v = .ref a ∧ SqT K H a vs ∧ BareT K H a ∧ RDs K loc H ds vs := by rw [RD] at r; exact r
theorem RD.tup_ {ds : List D} (r : RD K loc H (.tup ds) v) : ∃ a vs, v = .ref a ∧ SqT K H a vs ∧ RDs K loc H ds vs := by
  obtain ⟨a, vs, e, s, _, q⟩ := r.tupB
  exact ⟨a, vs, e, s, q⟩
theorem RD.ref_ {n : Nat} (r : RD K loc H (.ref n) v) : ∃ a, v = .ref a ∧ loc[n]? = some a := by rw [RD] at r; exact r
theorem RD.fn_ {a : Addr} (r : RD K loc H (.fn a) v) : v = .ref a := by rw [RD] at r; exact r
theorem rd_fn {a : Addr} : RD K loc H (.fn a) (.ref a) := by rw [RD]
theorem rd_non : RD K loc H .non .non := by rw [RD]
theorem rd_bl {b : Bool} : RD K loc H (.bl b) (.bl b) := by rw [RD]
theorem rd_int {i : Int} : RD K loc H (.int i) (.int i) := by rw [RD]
theorem rd_str {x : Str} : RD K loc H (.str x) (.str x) := by rw [RD]
theorem rd_tup {ds : List D} {a : Addr} {vs : List V} (s : SqT K H a vs) (b : BareT K H a) (r : RDs K loc H ds vs) : RD K loc H (.tup ds) (.ref a) := by rw [RD]; exact ⟨a, vs, rfl, s, b, r⟩
theorem rd_ref {n : Nat} {a : Addr} (l : loc[n]? = some a) : RD K loc H (.ref n) (.ref a) := by rw [RD]; exact ⟨a, rfl, l⟩
end
theorem lenOk_i {n : Nat} (h : lenOk n = true) : n ≤ sizeLine := of_decide_eq_true h

/-! ### two-place operations -/
def lf2 (K : PySem.W.Frag) (f : D → D → Hh → Kd → Prop) : R2 := fun x y H Q => ∃ loc h dx dy Q', RH K loc H h ∧ RD K loc H dx x ∧ RD K loc H dy y ∧ f dx dy h Q' ∧ Kx K loc H Q' Q
def lf1 (K : PySem.W.Frag) (f : D → Hh → Kd → Prop) : V → Hp → VK → Prop := fun x H Q => ∃ loc h dx Q', RH K loc H h ∧ RD K loc H dx x ∧ f dx h Q' ∧ Kx K loc H Q' Q
def lfC (K : PySem.W.Frag) (f : List D → Hh → Kd → Prop) : List V → Hp → VK → Prop := fun xs H Q => ∃ loc h ds Q', RH K loc H h ∧ RDs K loc H ds xs ∧ f ds h Q' ∧ Kx K loc H Q' Q
def lfM (K : PySem.W.Frag) (f : D → List D → Hh → Kd → Prop) : V → List V → Hp → VK → Prop := fun x xs H Q => ∃ loc h dx ds Q', RH K loc H h ∧ RD K loc H dx x ∧ RDs K loc H ds xs ∧ f dx ds h Q' ∧ Kx K loc H Q' Q
section
variable {K : PySem.W.Frag} {loc : List Addr} {H : Hp} {h : Hh} {Q' : Kd} {Q : VK}
/-- what follows, at the same heap -/
theorem Kx.here (k : Kx K loc H Q' Q) (r : RH K loc H h) {d : D} {v : V} (q : Q' d h) (rd : RD K loc H d v) : Q v H := k d h v H loc q Xt.refl r rd
/-- .. at a new list -/
theorem Kx.new (k : Kx K loc H Q' Q) (r : RH K loc H h) {ds : List D} {vs : List V} (q : new (.lst ds) h Q') (rd : RDs K loc H ds vs) : ∀ p, H p = none → Q (.ref p) (upd H p (.lst vs)) := fun p hp =>
  k _ _ _ _ (loc ++ [p]) (new_e q) (Xt.new hp) (r.new hp rd) (rd_ref (by rw [← r.len]; simp))
/-- .. at a new tuple -/
theorem Kx.tup (k : Kx K loc H Q' Q) (r : RH K loc H h) {ds : List D} {vs : List V} (q : Q' (.tup ds) h) (rd : RDs K loc H ds vs) : TupAt Q H vs := fun p o ho hp =>
  k _ _ _ _ loc q (Xt.hid (.inl hp)) (r.hid hp) (rd_tup (.inl (.inr ⟨o, upd_same⟩)) (.inl ⟨o, _, upd_same, ho⟩) (rd.mono (Xt.hid (.inl hp))))
/-- .. behind a list's change -/
theorem Kx.set (k : Kx K loc H Q' Q) (r : RH K loc H h) {n : Nat} {a : Addr} {old ds : List D} {vs : List V} {d : D} {v : V} (e : h[n]? = some (.lst old)) (l : loc[n]? = some a) (q : Q' d (h.set n (.lst ds))) (rd : RDs K loc H ds vs) (rv : RD K loc H d v) : Q v (upd H a (.lst vs)) :=
  k _ _ _ _ loc q (Xt.hid (.inr (r.mutH e rfl l))) (r.set e l rd) (rv.mono (Xt.hid (.inr (r.mutH e rfl l))))
end
section
variable {K : PySem.W.Frag} {loc : List Addr} {H : Hp} {h : Hh} {Q' : Kd} {Q : VK}
theorem Kx.newD (k : Kx K loc H Q' Q) (r : RH K loc H h) {kvs : List (Str × D)} {ks : List (L2.Key × V)} (q : Mi.new (.dic kvs) h Q') (rd : RKs K loc H kvs ks) : ∀ p, H p = none → Q (.ref p) (upd H p (.dK ks)) := fun p hp =>
  k _ _ _ _ (loc ++ [p]) (new_e q) (Xt.new hp) (r.newD hp rd) (rd_ref (by rw [← r.len]; simp))
theorem Kx.setD (k : Kx K loc H Q' Q) (r : RH K loc H h) {n : Nat} {a : Addr} {old kvs : List (Str × D)} {ks : List (L2.Key × V)} {d : D} {v : V} (e : h[n]? = some (.dic old)) (l : loc[n]? = some a) (q : Q' d (h.set n (.dic kvs))) (rd : RKs K loc H kvs ks) (rv : RD K loc H d v) : Q v (upd H a (.dK ks)) :=
  k _ _ _ _ loc q (Xt.hid (.inr (r.mutH e rfl l))) (r.setD e l rd) (rv.mono (Xt.hid (.inr (r.mutH e rfl l))))
end
def bopOf : BOp → Operator
  | .add => .Add | .sub => .Sub | .mul => .Mult | .fdiv => .FloorDiv | .mod => .Mod | .pow => .Pow | .shl => .LShift | .band => .BitAnd
def copOf : COp → CmpOp
  | .eq => .Eq | .ne => .NotEq | .lt => .Lt | .le => .LtE | .gt => .Gt | .ge => .GtE | .is => .Is | .isnot => .IsNot | .isin => .In | .notin => .NotIn
section
variable {X : Cx}
theorem mulOk_i {i j : Int} (h : mulOk i j = true) : CMul i j ∨ CMulW i j := by
  unfold mulOk at h
  rw [Bool.or_eq_true, Bool.or_eq_true, Bool.and_eq_true] at h
  rcases h with h | h | ⟨h1, h2⟩
  · have := of_decide_eq_true h
    exact .inl (.inl (by omega))
  · have := of_decide_eq_true h
    exact .inl (.inr (by omega))
  · exact .inr (wide_mul (of_decide_eq_true h1) (of_decide_eq_true h2) (by decide) (by decide) (by decide))
theorem b3 {a b c : Bool} (h : (a && b && c) = true) : a = true ∧ b = true ∧ c = true := by
  rw [Bool.and_eq_true, Bool.and_eq_true] at h
  exact ⟨h.1.1, h.1.2, h.2⟩
theorem op_bin (op : BOp) : OpR X (binaryOp (bopOf op)) (lf2 X.K (opBin op)) := by
  intro pins s σ H x y v u Q I rx ry hq
  obtain ⟨loc, h, dx, dy, Q', rh, r1, r2, w, k⟩ := hq
  cases op with
  | add =>
    cases dx <;> cases dy <;> try exact w.elim
    · cases r1.int_
      cases r2.int_
      exact op_add pins s σ H _ _ v u Q I rx ry ⟨_, _, rfl, rfl, k.here rh w rd_int⟩
    · cases r1.str_
      cases r2.str_
      obtain ⟨c, w⟩ := chk_e w
      exact op_add_str pins s σ H _ _ v u Q I rx ry ⟨_, _, rfl, rfl, lenOk_i c, k.here rh w rd_str⟩
    · rename_i xs ys
      obtain ⟨c, w⟩ := chk_e w
      obtain ⟨a, vs, rfl, sa, ba, q1⟩ := r1.tupB
      obtain ⟨b, ws, rfl, sb, bb, q2⟩ := r2.tupB
      have l1 := q1.length
      have l2 := q2.length
      refine op_catF pins s σ H _ _ v u Q I rx ry ⟨a, b, vs, ws, rfl, rfl, sa, sb, by rw [l1, l2]; exact lenOk_i c, fun z => ?_, fun _ z => ?_, fun _ _ => k.tup rh w (q1.append q2)⟩
      · subst z
        have := List.eq_nil_of_length_eq_zero l1.symm
        subst this
        exact k.here rh w (rd_tup sb bb q2)
      · subst z
        have := List.eq_nil_of_length_eq_zero l2.symm
        subst this
        rw [List.append_nil] at w
        exact k.here rh w (rd_tup sa ba q1)
    · rename_i n m
      obtain ⟨xs, hn, w⟩ := rdL_e (show rdL h n _ from w)
      obtain ⟨ys, hm, w⟩ := rdL_e (show rdL h m _ from w)
      obtain ⟨c, w⟩ := chk_e w
      obtain ⟨a, vs, rfl, la, ha, q1⟩ := rh.lst hn r1
      obtain ⟨b, ws, rfl, lb, hb, q2⟩ := rh.lst hm r2
      exact op_cat pins s σ H _ _ v u Q I rx ry ⟨a, b, vs, ws, rfl, rfl, ha, hb, by rw [q1.length, q2.length]; exact lenOk_i c, k.new rh w (q1.append q2)⟩
  | sub =>
    cases dx <;> cases dy <;> try exact w.elim
    cases r1.int_
    cases r2.int_
    exact op_sub pins s σ H _ _ v u Q I rx ry ⟨_, _, rfl, rfl, k.here rh w rd_int⟩
  | mul =>
    cases dx <;> cases dy <;> try exact w.elim
    · cases r1.int_
      cases r2.int_
      obtain ⟨c, w⟩ := chk_e w
      rcases mulOk_i c with c | c
      · exact op_mul pins s σ H _ _ v u Q I rx ry ⟨_, _, rfl, rfl, c, k.here rh w rd_int⟩
      · exact op_mulW pins s σ H _ _ v u Q I rx ry ⟨_, _, rfl, rfl, c, k.here rh w rd_int⟩
    · rename_i n i
      obtain ⟨xs, hn, w⟩ := rdL_e (show rdL h n _ from w)
      obtain ⟨c, w⟩ := chk_e w
      obtain ⟨c1, c2⟩ := Bool.and_eq_true_iff.mp c
      have c1' := of_decide_eq_true c1
      obtain ⟨a, vs, rfl, la, ha, q1⟩ := rh.lst hn r1
      cases r2.int_
      exact op_rep pins s σ H _ _ v u Q I rx ry ⟨a, i, vs, rfl, rfl, ha, by omega, by omega, by rw [q1.length]; exact lenOk_i c2, k.new rh w (q1.rep _)⟩
  | fdiv =>
    cases dx <;> cases dy <;> try exact w.elim
    cases r1.int_
    cases r2.int_
    obtain ⟨c, w⟩ := chk_e w
    obtain ⟨c1, c2⟩ := Bool.and_eq_true_iff.mp c
    exact op_fdivW pins s σ H _ _ v u Q I rx ry ⟨_, _, rfl, rfl, wide_div (of_decide_eq_true c1) (of_decide_eq_true c2) (by decide) (by decide), k.here rh w rd_int⟩
  | mod =>
    cases dx <;> cases dy <;> try exact w.elim
    cases r1.int_
    cases r2.int_
    obtain ⟨c, w⟩ := chk_e w
    exact op_mod pins s σ H _ _ v u Q I rx ry ⟨_, _, rfl, rfl, of_decide_eq_true c, k.here rh w rd_int⟩
  | pow =>
    cases dx <;> cases dy <;> try exact w.elim
    cases r1.int_
    cases r2.int_
    obtain ⟨c, w⟩ := chk_e w
    obtain ⟨c1, c2, c3⟩ := b3 c
    exact op_pow pins s σ H _ _ v u Q I rx ry ⟨_, _, rfl, rfl, ⟨of_decide_eq_true c1, of_decide_eq_true c2, of_decide_eq_true c3⟩, k.here rh w rd_int⟩
  | shl =>
    cases dx <;> cases dy <;> try exact w.elim
    cases r1.int_
    cases r2.int_
    obtain ⟨c, w⟩ := chk_e w
    obtain ⟨c1, c2, c3⟩ := b3 c
    exact op_shl pins s σ H _ _ v u Q I rx ry ⟨_, _, rfl, rfl, ⟨of_decide_eq_true c1, of_decide_eq_true c2, of_decide_eq_true c3⟩, k.here rh w rd_int⟩
  | band =>
    cases dx <;> cases dy <;> try exact w.elim
    cases r1.int_
    cases r2.int_
    exact op_and pins s σ H _ _ v u Q I rx ry ⟨_, _, rfl, rfl, k.here rh w rd_int⟩
theorem op_aug (op : BOp) : OpR X (inplaceOp (bopOf op)) (lf2 X.K (opAug op)) := by
  intro pins s σ H x y v u Q I rx ry hq
  obtain ⟨loc, h, dx, dy, Q', rh, r1, r2, w, k⟩ := hq
  cases op with
  | add =>
    cases dx <;> cases dy <;> try exact w.elim
    · cases r1.int_
      cases r2.int_
      exact iop_add pins s σ H _ _ v u Q I rx ry ⟨_, _, rfl, rfl, k.here rh w rd_int⟩
    · cases r1.str_
      cases r2.str_
      obtain ⟨c, w⟩ := chk_e w
      exact iop_add_str pins s σ H _ _ v u Q I rx ry ⟨_, _, rfl, rfl, lenOk_i c, k.here rh w rd_str⟩
  | sub =>
    cases dx <;> cases dy <;> try exact w.elim
    cases r1.int_
    cases r2.int_
    exact iop_sub pins s σ H _ _ v u Q I rx ry ⟨_, _, rfl, rfl, k.here rh w rd_int⟩
  | mul =>
    cases dx <;> cases dy <;> try exact w.elim
    cases r1.int_
    cases r2.int_
    obtain ⟨c, w⟩ := chk_e w
    rename_i i j _
    have c' : IntMulOk i j := by
      rcases mulOk_i c with c | c
      · exact c.ok
      · exact c.ok
    obtain ⟨t, rfl⟩ := rx
    obtain ⟨t', rfl⟩ := ry
    exact imul_int ⟨.int _, H, I.tok _, ⟨_, rfl⟩, k.here rh w rd_int⟩ c'
  | fdiv =>
    cases dx <;> cases dy <;> try exact w.elim
    cases r1.int_
    cases r2.int_
    obtain ⟨c, w⟩ := chk_e w
    obtain ⟨c1, c2⟩ := Bool.and_eq_true_iff.mp c
    have c1' := of_decide_eq_true c1
    have cw := (wide_div c1' (of_decide_eq_true c2) (by decide) (by decide) : CDivW 0 _)
    obtain ⟨t, rfl⟩ := rx
    obtain ⟨t', rfl⟩ := ry
    exact ifloordiv_int (by omega) (by rw [Int.fdiv_eq_ediv_of_nonneg _ (by omega)]; exact ⟨.int _, H, I.tok _, ⟨_, rfl⟩, k.here rh w rd_int⟩) (.inl (PyProof.noPylong_of_log2 cw.2))
  | mod =>
    cases dx <;> cases dy <;> try exact w.elim
    cases r1.int_
    cases r2.int_
    obtain ⟨c, w⟩ := chk_e w
    exact iop_mod pins s σ H _ _ v u Q I rx ry ⟨_, _, rfl, rfl, of_decide_eq_true c, k.here rh w rd_int⟩
  | _ => cases dx <;> exact w.elim
/-! ### comparisons -/
theorem RD.isN {loc : List Addr} {H : Hp} {K : PySem.W.Frag} {d : D} {v : V} (r : RD K loc H d v) : decide (v = .non) = (match d with | .non => true | _ => false) := by
  cases d with
  | non => cases r.non_; rfl
  | bl b => cases r.bl_; rfl
  | int i => cases r.int_; rfl
  | str x => cases r.str_; rfl
  | tup ds => obtain ⟨a, vs, rfl, _⟩ := r.tup_; rfl
  | ref n => obtain ⟨a, rfl, _⟩ := r.ref_; rfl
  | fn a => cases r.fn_; rfl
theorem eqV_fl {K : PySem.W.Frag} {loc : List Addr} {H : Hp} {d e : D} {v w : V} (r1 : RD K loc H d v) (r2 : RD K loc H e w) (f1 : isFl d = true) (f2 : isFl e = true) : eqV v w = eqD d e := by
  cases d <;> cases e <;> try cases f1 <;> try cases f2
  all_goals first
    | (cases r1.non_; cases r2.non_; simp [eqV, eqD])
    | (cases r1.non_; cases r2.bl_; simp [eqV, eqD])
    | (cases r1.non_; cases r2.int_; simp [eqV, eqD])
    | (cases r1.non_; cases r2.str_; simp [eqV, eqD])
    | (cases r1.bl_; cases r2.non_; simp [eqV, eqD])
    | (cases r1.bl_; cases r2.bl_; simp [eqV, eqD])
    | (cases r1.bl_; cases r2.int_; simp [eqV, eqD])
    | (cases r1.bl_; cases r2.str_; simp [eqV, eqD])
    | (cases r1.int_; cases r2.non_; simp [eqV, eqD])
    | (cases r1.int_; cases r2.bl_; simp [eqV, eqD])
    | (cases r1.int_; cases r2.int_; simp [eqV, eqD])
    | (cases r1.int_; cases r2.str_; simp [eqV, eqD])
    | (cases r1.str_; cases r2.non_; simp [eqV, eqD])
    | (cases r1.str_; cases r2.bl_; simp [eqV, eqD])
    | (cases r1.str_; cases r2.int_; simp [eqV, eqD])
    | (cases r1.str_; cases r2.str_; simp only [eqV, eqD, strEq_dec]; rfl)
theorem fl_all {K : PySem.W.Frag} {loc : List Addr} {H : Hp} : ∀ {ds : List D} {vs : List V}, RDs K loc H ds vs → ds.all isFl = true → vs.all flatV = true
  | [], vs, r, _ => by rw [RDs] at r; rw [r]; rfl
  | d :: ds, vs, r, h => by
    rw [RDs] at r
    obtain ⟨v, t, rfl, r1, r2⟩ := r
    rw [List.all_cons, Bool.and_eq_true] at h
    rw [List.all_cons, fl_all r2 h.2, Bool.and_true]
    cases d <;> try cases h.1
    · cases r1.non_; rfl
    · cases r1.bl_; rfl
    · cases r1.int_; rfl
    · cases r1.str_; rfl
theorem fl_one {K : PySem.W.Frag} {loc : List Addr} {H : Hp} {d : D} {v : V} (r1 : RD K loc H d v) (h : isFl d = true) : flatV v = true := by
  cases d <;> try cases h
  · cases r1.non_; rfl
  · cases r1.bl_; rfl
  · cases r1.int_; rfl
  · cases r1.str_; rfl
theorem inV_fl {K : PySem.W.Frag} {loc : List Addr} {H : Hp} {d : D} {v : V} (r : RD K loc H d v) (f : isFl d = true) : ∀ {ds : List D} {vs : List V}, RDs K loc H ds vs → ds.all isFl = true → inV v vs = inFlat d ds
  | [], vs, q, _ => by rw [RDs] at q; rw [q]; rfl
  | e :: ds, vs, q, h => by
    rw [RDs] at q
    obtain ⟨w, t, rfl, q1, q2⟩ := q
    rw [List.all_cons, Bool.and_eq_true] at h
    have ih := inV_fl r f q2 h.2
    unfold inV inFlat at ih ⊢
    rw [List.any_cons, List.any_cons, ih, eqV_fl q1 r h.1 f]
/-! ### == of tuples of tuples -/
theorem notFl {d : D} (f : D.flat d = true) (n : isFl d = false) : ∃ ds, d = .tup ds := by
  cases d with
  | tup ds => exact ⟨ds, rfl⟩
  | ref _ => cases f
  | fn _ => cases f
  | _ => cases n
theorem fl_tup {K : PySem.W.Frag} {loc : List Addr} {H : Hp} {A : Around} {s : Shared} {d : D} {v : V} {u : Value} {l : Addr} {items : Array Value} (r : RD K loc H d v) (f : isFl d = true) (rx : RelV v u) (hl : s.heap.IsTuple l items) (hu : A.units < cLine) :
    SeqAt.EqAt A s u (.ref l) false ∧ SeqAt.EqAt A s (.ref l) u false := by
  cases d <;> try cases f
  · cases r.non_
    cases rx
    exact ⟨.none_tuple hl hu, .tuple_none hl hu⟩
  · cases r.bl_
    cases rx
    exact ⟨.bool_tuple _ hl hu, .tuple_bool _ hl hu⟩
  · cases r.int_
    obtain ⟨t, rfl⟩ := rx
    exact ⟨.int_tuple _ _ hl hu, .tuple_int _ _ hl hu⟩
  · cases r.str_
    obtain ⟨t, rfl⟩ := rx
    exact ⟨.str_tuple _ _ hl hu, .tuple_str _ _ hl hu⟩
/-- the items' answers -/
def eqAll : List D → List D → Nat → Bool
  | x :: xs, y :: ys, 0 => eqD x y
  | _ :: xs, _ :: ys, n + 1 => eqAll xs ys n
  | _, _, _ => true
theorem range_all_succ (n : Nat) (e : Nat → Bool) : (List.range (n + 1)).all e = (e 0 && (List.range n).all fun i => e (i + 1)) := by
  rw [List.range_succ_eq_map, List.all_cons, List.all_map]
  rfl
theorem eqAll_sum : ∀ xs ys : List D, (((List.range (min xs.length ys.length)).all (eqAll xs ys)) && xs.length == ys.length) = eqDs xs ys
  | [], [] => rfl
  | [], _ :: _ => rfl
  | _ :: _, [] => rfl
  | x :: xs, y :: ys => by
    have ih := eqAll_sum xs ys
    simp only [List.length_cons, Nat.succ_min_succ]
    rw [range_all_succ]
    show (eqD x y && ((List.range (min xs.length ys.length)).all fun i => eqAll xs ys i) && (xs.length + 1 == ys.length + 1)) = (eqD x y && eqDs xs ys)
    rw [← ih, Bool.and_assoc]
    congr 2
    by_cases h : xs.length = ys.length
    · simp [h]
    · have : ¬ xs.length + 1 = ys.length + 1 := by omega
      simp [h]
section
variable {X : Cx} {pins : List (Addr × Obj)} {σ : L2.St} {H : Hp} {s : Shared} {loc : List Addr}
theorem tup_same {a : Addr} {xs ys : Array Value} (h1 : s.heap.IsTuple a xs) (h2 : s.heap.IsTuple a ys) : xs = ys := by
  obtain ⟨o, e, _, n, d⟩ := h1
  obtain ⟨o2, e2, _, n2, d2⟩ := h2
  rw [e] at e2
  cases e2
  rw [d] at d2
  cases d2
  rfl
theorem fl_same {d e : D} {x y : V} {u : Value} (f1 : isFl d = true) (f2 : D.flat e = true) (r1 : RD X.K loc H d x) (r2 : RD X.K loc H e y) (rx : RelV x u) (ry : RelV y u) : eqD d e = true := by
  cases d <;> try cases f1
  · cases r1.non_
    cases rx
    cases e <;> try cases f2
    · rfl
    · cases r2.bl_; cases ry
    · cases r2.int_; obtain ⟨_, z⟩ := ry; cases z
    · cases r2.str_; obtain ⟨_, z⟩ := ry; cases z
    · obtain ⟨_, _, rfl, _⟩ := r2.tup_; cases ry
  · cases r1.bl_
    cases rx
    cases e <;> try cases f2
    · cases r2.non_; cases ry
    · cases r2.bl_; cases ry; simp [eqD]
    · cases r2.int_; obtain ⟨_, z⟩ := ry; cases z
    · cases r2.str_; obtain ⟨_, z⟩ := ry; cases z
    · obtain ⟨_, _, rfl, _⟩ := r2.tup_; cases ry
  · cases r1.int_
    obtain ⟨t, rfl⟩ := rx
    cases e <;> try cases f2
    · cases r2.non_; cases ry
    · cases r2.bl_; cases ry
    · cases r2.int_; obtain ⟨_, z⟩ := ry; cases z; simp [eqD]
    · cases r2.str_; obtain ⟨_, z⟩ := ry; cases z
    · obtain ⟨_, _, rfl, _⟩ := r2.tup_; cases ry
  · cases r1.str_
    obtain ⟨t, rfl⟩ := rx
    cases e <;> try cases f2
    · cases r2.non_; cases ry
    · cases r2.bl_; cases ry
    · cases r2.int_; obtain ⟨_, z⟩ := ry; cases z
    · cases r2.str_; obtain ⟨_, z⟩ := ry; cases z; exact strEq_self _
    · obtain ⟨_, _, rfl, _⟩ := r2.tup_; cases ry
mutual
theorem same_run (I : Inv X pins σ H s) : ∀ (d e : D) (x y : V) (u : Value), D.flat d = true → D.flat e = true → RD X.K loc H d x → RD X.K loc H e y → RelV x u → RelV y u → eqD d e = true
  | .tup ds, e, x, y, u, f1, f2, r1, r2, rx, ry => by
    obtain ⟨a, vs, rfl, sa, q1⟩ := r1.tup_
    cases rx
    by_cases fe : isFl e = true
    · cases e <;> try cases fe
      · cases r2.non_; cases ry
      · cases r2.bl_; cases ry
      · cases r2.int_; obtain ⟨_, z⟩ := ry; cases z
      · cases r2.str_; obtain ⟨_, z⟩ := ry; cases z
    · obtain ⟨es, rfl⟩ := notFl f2 (by simpa using fe)
      obtain ⟨b, ws, rfl, sb, q2⟩ := r2.tup_
      cases ry
      obtain ⟨its, rv, pl, hz⟩ := I.tuple sa
      obtain ⟨its2, rv2, pl2, hz2⟩ := I.tuple sb
      have := congrArg Array.toList (tup_same pl pl2)
      simp only at this
      subst this
      exact sames_run I ds es vs ws its f1 f2 q1 q2 rv rv2
  | .non, e, x, y, u, f1, f2, r1, r2, rx, ry => fl_same rfl f2 r1 r2 rx ry
  | .bl b, e, x, y, u, f1, f2, r1, r2, rx, ry => fl_same rfl f2 r1 r2 rx ry
  | .int i, e, x, y, u, f1, f2, r1, r2, rx, ry => fl_same rfl f2 r1 r2 rx ry
  | .str z, e, x, y, u, f1, f2, r1, r2, rx, ry => fl_same rfl f2 r1 r2 rx ry
  | .ref _, _, _, _, _, f1, _, _, _, _, _ => by cases f1
  | .fn _, _, _, _, _, f1, _, _, _, _, _ => by cases f1
theorem sames_run (I : Inv X pins σ H s) : ∀ (ds es : List D) (xs ys : List V) (us : List Value), D.flats ds = true → D.flats es = true → RDs X.K loc H ds xs → RDs X.K loc H es ys → Vals xs us → Vals ys us → eqDs ds es = true
  | [], [], _, _, _, _, _, _, _, _, _ => rfl
  | [], e :: es, xs, ys, us, _, _, r1, r2, rx, ry => by
    have e1 : xs.length = 0 := r1.length
    have e2 : ys.length = es.length + 1 := r2.length
    have e3 := rx.length
    have e4 := ry.length
    omega
  | d :: ds, [], xs, ys, us, _, _, r1, r2, rx, ry => by
    have e1 : xs.length = ds.length + 1 := r1.length
    have e2 : ys.length = 0 := r2.length
    have e3 := rx.length
    have e4 := ry.length
    omega
  | d :: ds, e :: es, xs, ys, us, f1, f2, r1, r2, rx, ry => by
    have f1' : (d.flat && D.flats ds) = true := f1
    have f2' : (e.flat && D.flats es) = true := f2
    obtain ⟨a1, a2⟩ := Bool.and_eq_true_iff.mp f1'
    obtain ⟨b1, b2⟩ := Bool.and_eq_true_iff.mp f2'
    rw [RDs] at r1 r2
    obtain ⟨x, xs, rfl, c1, c2⟩ := r1
    obtain ⟨y, ys, rfl, c3, c4⟩ := r2
    cases rx with
    | cons p1 p2 =>
      cases ry with
      | cons p3 p4 =>
        show (eqD d e && eqDs ds es) = true
        rw [same_run I d e x y _ a1 b1 c1 c3 p1 p3, sames_run I ds es xs ys _ a2 b2 c2 c4 p2 p4]
        rfl
end
theorem eqD_fl {A : Around} (I : Inv X pins σ H s) (d e : D) (x y : V) (v u : Value) (f1 : isFl d = true) (f2 : D.flat e = true) (hu : A.units < cLine) (r1 : RD X.K loc H d x) (r2 : RD X.K loc H e y) (rx : RelV x v) (ry : RelV y u) : SeqAt.EqAt A s v u (eqD d e) := by
  by_cases fe : isFl e = true
  · rw [← eqV_fl r1 r2 f1 fe]
    exact eqAt_V rx ry (fl_one r1 f1) (fl_one r2 fe)
  · obtain ⟨es, rfl⟩ := notFl f2 (by simpa using fe)
    obtain ⟨b, ws, rfl, sb, q2⟩ := r2.tup_
    cases ry
    obtain ⟨its, rv, pl, hz⟩ := I.tuple sb
    have := (fl_tup (A := A) r1 f1 rx pl hu).1
    cases d <;> first | exact this | cases f1
mutual
theorem eqD_run (I : Inv X pins σ H s) : ∀ (d e : D) (A : Around) (x y : V) (v u : Value), D.flat d = true → D.flat e = true → A.units + D.dep d < cLine → RD X.K loc H d x → RD X.K loc H e y → RelV x v → RelV y u → SeqAt.EqAt A s v u (eqD d e)
  | .tup ds, e, A, x, y, v, u, f1, f2, hu, r1, r2, rx, ry => by
    obtain ⟨a, vs, rfl, sa, q1⟩ := r1.tup_
    cases rx
    obtain ⟨its, rv, pl, hz⟩ := I.tuple sa
    have hu0 : A.units < cLine := by omega
    by_cases fe : isFl e = true
    · have := (fl_tup (A := A) r2 fe ry pl hu0).2
      cases e <;> first | exact this | cases fe
    · obtain ⟨es, rfl⟩ := notFl f2 (by simpa using fe)
      obtain ⟨b, ws, rfl, sb, q2⟩ := r2.tup_
      cases ry
      obtain ⟨its2, rv2, pl2, hz2⟩ := I.tuple sb
      by_cases hab : a = b
      · subst hab
        rw [same_run I (.tup ds) (.tup es) (.ref a) (.ref a) (.ref a) f1 f2 r1 r2 rfl rfl]
        exact SeqAt.EqAt.same _
      · refine SeqAt.EqAt.of_refs hab ?_
        have k := SeqAt.RcAt.tuples (A := A) (e := eqAll ds es) pl pl2 hu0 fun j h1 h2 => eqDs_run I ds es A.in1 vs ws its its2 f1 f2 (by show A.units + 1 + D.deps ds < cLine; have : D.dep (.tup ds) = D.deps ds + 1 := rfl; omega) q1 q2 rv rv2 j (by simpa using h1) (by simpa using h2)
        have l1 : its.toArray.size = ds.length := by rw [List.size_toArray, ← rv.length, q1.length]
        have l2 : its2.toArray.size = es.length := by rw [List.size_toArray, ← rv2.length, q2.length]
        rw [l1, l2, eqAll_sum] at k
        exact k
  | .non, e, A, x, y, v, u, f1, f2, hu, r1, r2, rx, ry => eqD_fl I .non e x y v u rfl f2 (by omega) r1 r2 rx ry
  | .bl b, e, A, x, y, v, u, f1, f2, hu, r1, r2, rx, ry => eqD_fl I (.bl b) e x y v u rfl f2 (by omega) r1 r2 rx ry
  | .int i, e, A, x, y, v, u, f1, f2, hu, r1, r2, rx, ry => eqD_fl I (.int i) e x y v u rfl f2 (by omega) r1 r2 rx ry
  | .str z, e, A, x, y, v, u, f1, f2, hu, r1, r2, rx, ry => eqD_fl I (.str z) e x y v u rfl f2 (by omega) r1 r2 rx ry
  | .ref _, _, _, _, _, _, _, f1, _, _, _, _, _, _ => by cases f1
  | .fn _, _, _, _, _, _, _, f1, _, _, _, _, _, _ => by cases f1
theorem eqDs_run (I : Inv X pins σ H s) : ∀ (ds es : List D) (A : Around) (xs ys : List V) (vs us : List Value), D.flats ds = true → D.flats es = true → A.units + D.deps ds < cLine → RDs X.K loc H ds xs → RDs X.K loc H es ys → Vals xs vs → Vals ys us → ∀ j (h1 : j < vs.length) (h2 : j < us.length), SeqAt.EqAt A s vs[j] us[j] (eqAll ds es j)
  | [], es, A, xs, ys, vs, us, f1, f2, hu, r1, r2, rx, ry, j, h1, h2 => by
    have e1 : xs.length = 0 := r1.length
    have e2 := rx.length
    exact absurd h1 (by omega)
  | d :: ds, [], A, xs, ys, vs, us, f1, f2, hu, r1, r2, rx, ry, j, h1, h2 => by
    have e1 : ys.length = 0 := r2.length
    have e2 := ry.length
    exact absurd h2 (by omega)
  | d :: ds, e :: es, A, xs, ys, vs, us, f1, f2, hu, r1, r2, rx, ry, j, h1, h2 => by
    have f1' : (d.flat && D.flats ds) = true := f1
    have f2' : (e.flat && D.flats es) = true := f2
    obtain ⟨a1, a2⟩ := Bool.and_eq_true_iff.mp f1'
    obtain ⟨b1, b2⟩ := Bool.and_eq_true_iff.mp f2'
    have hd : D.deps (d :: ds) = max d.dep (D.deps ds) := rfl
    rw [RDs] at r1 r2
    obtain ⟨x, xs, rfl, c1, c2⟩ := r1
    obtain ⟨y, ys, rfl, c3, c4⟩ := r2
    cases rx with
    | cons p1 p2 =>
      cases ry with
      | cons p3 p4 =>
        cases j with
        | zero => exact eqD_run I d e A x y _ _ a1 b1 (by omega) c1 c3 p1 p3
        | succ j => exact eqDs_run I ds es A xs ys _ _ a2 b2 (by omega) c2 c4 p2 p4 j (Nat.lt_of_succ_lt_succ h1) (Nat.lt_of_succ_lt_succ h2)
end
end
def tMix (d e : D) : Prop := (isFl d = true ∧ ∃ b, e = .tup b) ∨ (isFl e = true ∧ ∃ b, d = .tup b)
theorem opEq_ok {K : PySem.W.Frag} {loc : List Addr} {H : Hp} {d e : D} {v w : V} {R : Bool → Prop} (r1 : RD K loc H d v) (r2 : RD K loc H e w) (h : opEq d e R) : (scal v w = true ∧ R (decide (v = w))) ∨ (∃ a b, d = .tup a ∧ e = .tup b ∧ D.flats a = true ∧ D.flats b = true ∧ D.deps a ≤ 50 ∧ R (eqDs a b)) ∨ (tMix d e ∧ R false) := by
  by_cases ht : ∃ a b, d = .tup a ∧ e = .tup b
  · obtain ⟨a, b, rfl, rfl⟩ := ht
    obtain ⟨c, h⟩ := chk_e h
    obtain ⟨c1, c2⟩ := Bool.and_eq_true_iff.mp c
    obtain ⟨c2, c3⟩ := Bool.and_eq_true_iff.mp c2
    exact .inr (.inl ⟨a, b, rfl, rfl, c1, c2, of_decide_eq_true c3, h⟩)
  cases d <;> cases e <;> first | exact absurd ⟨_, _, rfl, rfl⟩ ht | exact .inr (.inr ⟨.inl ⟨rfl, _, rfl⟩, h⟩) | exact .inr (.inr ⟨.inr ⟨rfl, _, rfl⟩, h⟩) | skip
  all_goals try exact h.elim
  all_goals refine .inl ?_
  · cases r1.non_; cases r2.non_; exact ⟨rfl, h⟩
  · cases r1.non_; cases r2.bl_; exact ⟨rfl, h⟩
  · cases r1.non_; cases r2.int_; exact ⟨rfl, h⟩
  · cases r1.non_; cases r2.str_; exact ⟨rfl, h⟩
  · cases r1.bl_; cases r2.non_; exact ⟨rfl, h⟩
  · cases r1.bl_; cases r2.bl_; exact ⟨rfl, by rw [dec_bl]; exact h⟩
  · cases r1.bl_; cases r2.str_; exact ⟨rfl, h⟩
  · cases r1.int_; cases r2.non_; exact ⟨rfl, h⟩
  · cases r1.int_; cases r2.int_; exact ⟨rfl, by rw [dec_int]; exact h⟩
  · cases r1.int_; cases r2.str_; exact ⟨rfl, h⟩
  · cases r1.str_; cases r2.non_; exact ⟨rfl, h⟩
  · cases r1.str_; cases r2.bl_; exact ⟨rfl, h⟩
  · cases r1.str_; cases r2.int_; exact ⟨rfl, h⟩
  · cases r1.str_; cases r2.str_; exact ⟨rfl, by rw [dec_str, show ∀ a b : Str, (a == b) = strEq a b from fun a b => (strEq_dec a b).symm]; exact h⟩
theorem op_eqM (hu : X.A.units + 64 < cLine) {loc : List Addr} {d e : D} {pins : List (Addr × Obj)} {s : Shared} {σ : L2.St} {H : Hp} {x y : V} {v u : Value} {Q : VK} (I : Inv X pins σ H s) (rx : RelV x v) (ry : RelV y u) (r1 : RD X.K loc H d x) (r2 : RD X.K loc H e y) (m : tMix d e) (q : Q (.bl false) H) :
    wpAny (model X.prog X.w) X.A (compareOp .Eq v u) (EP X pins σ Q) X.xe s := by
  have hu0 : X.A.units < cLine := by omega
  have fin : EP X pins σ Q (.bool false) s := ⟨.bl false, H, I, rfl, q⟩
  rcases m with ⟨f, b, rfl⟩ | ⟨f, b, rfl⟩
  · obtain ⟨l, vs, rfl, sa, q1⟩ := r2.tup_
    cases ry
    obtain ⟨its, rv, pl, hz⟩ := I.tuple sa
    have pl' : s.heap.IsTuple l its.toArray := pl
    cases d <;> try cases f
    · cases r1.non_; cases rx; exact SeqAt.RcAt.none_tuple pl' hu0 _ _ _ _ fin
    · cases r1.bl_; cases rx; exact SeqAt.RcAt.bool_tuple _ pl' hu0 _ _ _ _ fin
    · cases r1.int_; obtain ⟨t, rfl⟩ := rx; exact SeqAt.RcAt.int_tuple _ _ pl' hu0 _ _ _ _ fin
    · cases r1.str_; obtain ⟨t, rfl⟩ := rx; exact SeqAt.RcAt.str_tuple _ _ pl' hu0 _ _ _ _ fin
  · obtain ⟨l, vs, rfl, sa, q1⟩ := r1.tup_
    cases rx
    obtain ⟨its, rv, pl, hz⟩ := I.tuple sa
    have pl' : s.heap.IsTuple l its.toArray := pl
    cases e <;> try cases f
    · cases r2.non_; cases ry; exact SeqAt.RcAt.tuple_none pl' hu0 _ _ _ _ fin
    · cases r2.bl_; cases ry; exact SeqAt.RcAt.tuple_bool _ pl' hu0 _ _ _ _ fin
    · cases r2.int_; obtain ⟨t, rfl⟩ := ry; exact SeqAt.RcAt.tuple_int _ _ pl' hu0 _ _ _ _ fin
    · cases r2.str_; obtain ⟨t, rfl⟩ := ry; exact SeqAt.RcAt.tuple_str _ _ pl' hu0 _ _ _ _ fin
theorem sg1_e {c : Str} {K : Nat → Prop} (w : sg1 c K) : ∃ k, c = ⟨#[k]⟩ ∧ K k := by
  obtain ⟨⟨l⟩⟩ := c
  unfold sg1 at w
  match l, w with
  | [k], w => exact ⟨k, rfl, w⟩
  | [], w => exact w.elim
  | _ :: _ :: _, w => exact w.elim
theorem sgIn_dec (z : Str) (k : Nat) : sgIn z k = decide (k ∈ z.cps.toList) := by
  unfold sgIn
  rw [Bool.eq_iff_iff, List.any_eq_true, decide_eq_true_iff]
  constructor
  · rintro ⟨j, hj, e⟩
    rw [Nat.beq_eq] at e
    rw [e]
    exact hj
  · exact fun h => ⟨k, h, Nat.beq_refl k⟩
theorem op_eqTT (hu : X.A.units + 64 < cLine) {loc : List Addr} {a b : List D} {pins : List (Addr × Obj)} {s : Shared} {σ : L2.St} {H : Hp} {x y : V} {v u : Value} {Q : VK} (I : Inv X pins σ H s) (rx : RelV x v) (ry : RelV y u) (r1 : RD X.K loc H (.tup a) x) (r2 : RD X.K loc H (.tup b) y) (f1 : D.flats a = true) (f2 : D.flats b = true) (hd : D.deps a ≤ 50) (q : Q (.bl (eqDs a b)) H) :
    wpAny (model X.prog X.w) X.A (compareOp .Eq v u) (EP X pins σ Q) X.xe s := by
  obtain ⟨l, vs, rfl, sa, q1⟩ := r1.tup_
  obtain ⟨m, ws, rfl, sb, q2⟩ := r2.tup_
  cases rx
  cases ry
  obtain ⟨its, rv, pl, hz⟩ := I.tuple sa
  obtain ⟨its2, rv2, pl2, hz2⟩ := I.tuple sb
  have l1 : its.toArray.size = a.length := by rw [List.size_toArray, ← rv.length, q1.length]
  have l2 : its2.toArray.size = b.length := by rw [List.size_toArray, ← rv2.length, q2.length]
  refine SeqAt.eq_tupleAt (e := eqAll a b) pl pl2 (by omega) (fun j h1 h2 => eqDs_run I a b X.A.in1 vs ws its its2 f1 f2 (by show X.A.units + 1 + D.deps a < cLine; omega) q1 q2 rv rv2 j (by simpa using h1) (by simpa using h2)) ?_
  rw [l1, l2, eqAll_sum]
  exact ⟨.bl _, H, I, rfl, q⟩
theorem op_cmp (hu : X.A.units + 64 < cLine) (op : COp) : OpR X (compareOp (copOf op)) (lf2 X.K fun x y h Q => opCmp op x y h fun b => Q (.bl b) h) := by
  intro pins s σ H x y v u Q I rx ry hq
  obtain ⟨loc, h, dx, dy, Q', rh, r1, r2, w, k⟩ := hq
  cases op with
  | eq =>
    rcases opEq_ok (R := fun b => Q' (.bl b) h) r1 r2 w with ⟨c, w⟩ | ⟨a, b, rfl, rfl, f1, f2, hd, w⟩ | ⟨m, w⟩
    · exact op_eq pins s σ H _ _ v u Q I rx ry ⟨c, k.here rh w rd_bl⟩
    · exact op_eqTT hu I rx ry r1 r2 f1 f2 hd (k.here rh w rd_bl)
    · exact op_eqM hu I rx ry r1 r2 m (k.here rh w rd_bl)
  | ne =>
    have ht1 : ¬ ∃ a, dx = .tup a := fun ⟨a, e1⟩ => by subst e1; cases dy <;> exact w
    have ht2 : ¬ ∃ a, dy = .tup a := fun ⟨a, e1⟩ => by subst e1; cases dx <;> exact w
    have w : opEq dx dy fun b => Q' (.bl (!b)) h := by
      cases dx <;> cases dy <;> first | exact absurd ⟨_, rfl⟩ ht1 | exact absurd ⟨_, rfl⟩ ht2 | exact w
    rcases opEq_ok (R := fun b => Q' (.bl (!b)) h) r1 r2 w with ⟨c, w⟩ | ⟨a, b, e1, e2, _⟩ | ⟨⟨_, b, e⟩ | ⟨_, b, e⟩, _⟩
    case inr.inl => exact absurd ⟨_, e1⟩ ht1
    case inr.inr.inl => exact absurd ⟨_, e⟩ ht2
    case inr.inr.inr => exact absurd ⟨_, e⟩ ht1
    exact op_ne pins s σ H _ _ v u Q I rx ry ⟨c, k.here rh w rd_bl⟩
  | lt =>
    cases dx <;> cases dy <;> try exact w.elim
    cases r1.int_; cases r2.int_
    exact op_lt pins s σ H _ _ v u Q I rx ry ⟨_, _, rfl, rfl, k.here rh w rd_bl⟩
  | le =>
    cases dx <;> cases dy <;> try exact w.elim
    cases r1.int_; cases r2.int_
    exact op_le pins s σ H _ _ v u Q I rx ry ⟨_, _, rfl, rfl, k.here rh w rd_bl⟩
  | gt =>
    cases dx <;> cases dy <;> try exact w.elim
    cases r1.int_; cases r2.int_
    exact op_gt pins s σ H _ _ v u Q I rx ry ⟨_, _, rfl, rfl, k.here rh w rd_bl⟩
  | ge =>
    cases dx <;> cases dy <;> try exact w.elim
    cases r1.int_; cases r2.int_
    exact op_ge pins s σ H _ _ v u Q I rx ry ⟨_, _, rfl, rfl, k.here rh w rd_bl⟩
  | is =>
    cases dy <;> try exact w.elim
    cases r2.non_
    refine op_isN pins s σ H _ _ v u Q I rx ry ⟨rfl, ?_⟩
    rw [r1.isN]
    cases dx <;> exact k.here rh w rd_bl
  | isnot =>
    cases dy <;> try exact w.elim
    cases r2.non_
    refine op_notN pins s σ H _ _ v u Q I rx ry ⟨rfl, ?_⟩
    rw [r1.isN]
    cases dx <;> exact k.here rh w rd_bl
  | isin =>
    by_cases hs : ∃ z, dy = .str z
    · obtain ⟨z, rfl⟩ := hs
      cases dx <;> try exact w.elim
      obtain ⟨c, rfl, w⟩ := sg1_e w
      cases r1.str_; cases r2.str_
      refine op_in_sign pins s σ H _ _ v u Q I rx ry ⟨c, z, rfl, rfl, ?_⟩
      rw [← sgIn_dec]
      exact k.here rh w rd_bl
    have w : sq h dy fun xs => chk (isFl dx && xs.all isFl) (Q' (.bl (inFlat dx xs)) h) := by
      cases dy <;> first | exact w | exact absurd ⟨_, rfl⟩ hs
    obtain ⟨ds, e, w⟩ := sq_e w
    obtain ⟨c, w⟩ := chk_e w
    obtain ⟨c1, c2⟩ := Bool.and_eq_true_iff.mp c
    obtain ⟨a, vs, rfl, q, sq⟩ := rh.seq e r2
    refine op_in_seq pins s σ H _ _ v u Q I rx ry ⟨a, vs, rfl, sq.elim (fun z => .inr z.1) (fun z => .inl z.1), fl_one r1 c1, fl_all q c2, ?_⟩
    rw [inV_fl r1 c1 q c2]
    exact k.here rh w rd_bl
  | notin =>
    by_cases hs : ∃ z, dy = .str z
    · obtain ⟨z, rfl⟩ := hs
      cases dx <;> try exact w.elim
      obtain ⟨c, rfl, w⟩ := sg1_e w
      cases r1.str_; cases r2.str_
      refine op_notIn_sign pins s σ H _ _ v u Q I rx ry ⟨c, z, rfl, rfl, ?_⟩
      rw [← sgIn_dec]
      exact k.here rh w rd_bl
    have w : sq h dy fun xs => chk (isFl dx && xs.all isFl) (Q' (.bl (!inFlat dx xs)) h) := by
      cases dy <;> first | exact w | exact absurd ⟨_, rfl⟩ hs
    obtain ⟨ds, e, w⟩ := sq_e w
    obtain ⟨c, w⟩ := chk_e w
    obtain ⟨c1, c2⟩ := Bool.and_eq_true_iff.mp c
    obtain ⟨a, vs, rfl, q, sq⟩ := rh.seq e r2
    refine op_notIn_seq pins s σ H _ _ v u Q I rx ry ⟨a, vs, rfl, sq.elim (fun z => .inr z.1) (fun z => .inl z.1), fl_one r1 c1, fl_all q c2, ?_⟩
    rw [inV_fl r1 c1 q c2]
    exact k.here rh w rd_bl
/-! ### truth -/
theorem truth_ok {K : PySem.W.Frag} {loc : List Addr} {H : Hp} {h : Hh} {d : D} {v : V} {R : Bool → Prop} (rh : RH K loc H h) (r : RD K loc H d v) (w : truth d h R) : ∃ k, TruV K v H k ∧ R k := by
  cases d with
  | non => cases r.non_; exact ⟨_, rfl, w⟩
  | bl b => cases r.bl_; exact ⟨_, rfl, w⟩
  | int i => cases r.int_; exact ⟨_, rfl, w⟩
  | str x => exact w.elim
  | fn x => exact w.elim
  | tup ds =>
    obtain ⟨a, vs, rfl, sq, q⟩ := r.tup_
    exact ⟨_, .inr (.inl ⟨vs, sq, rfl⟩), by rw [q.isEmpty]; exact w⟩
  | ref n =>
    obtain ⟨xs, hn, w⟩ := rdL_e (show rdL h n _ from w)
    obtain ⟨a, vs, rfl, la, ha, q⟩ := rh.lst hn r
    exact ⟨_, .inl ⟨vs, SqL.of ha, rfl⟩, by rw [q.isEmpty]; exact w⟩
/-! ### items, slices -/
theorem ixAt_eq (n : Nat) (i : Int) : ixAt n i = ixN n i := rfl
theorem op_ix (hu : X.A.units + 64 < cLine) : IxR X (lf2 X.K opIx) := by
  intro value slice pins s σ H x y v u Q I rx ry hq hsb
  obtain ⟨loc, h, dx, dy, Q', rh, r1, r2, w, k⟩ := hq
  by_cases hs : ∃ z, dy = .str z
  · obtain ⟨z, rfl⟩ := hs
    cases r2.str_
    cases dx <;> try exact w.elim
    obtain ⟨kvs, hn, w⟩ := rdD_e (show rdD h _ _ from w)
    obtain ⟨d, e, w⟩ := gtD_e w
    obtain ⟨a, ks, rfl, la, ha, q⟩ := rh.dic hn r1
    rcases q.val z with ⟨e2, _⟩ | ⟨d2, v2, e2, e3, rv⟩
    · rw [e] at e2; cases e2
    · rw [e] at e2
      cases e2
      exact ix_dK (by omega) value slice pins s σ H _ _ v u Q I rx ry ⟨a, ks, z, v2, rfl, rfl, ha, e3, k.here rh w rv⟩ hsb
  cases dy <;> first | exact absurd ⟨_, rfl⟩ hs | skip
  all_goals try exact w.elim
  cases r2.int_
  rename_i i
  by_cases hz : ∃ z, dx = .str z
  · obtain ⟨z, rfl⟩ := hz
    cases r1.str_
    obtain ⟨c, ec, hl, w⟩ := sgn_e (show sgn z i _ from w)
    refine ix_str value slice pins s σ H _ _ v u Q I rx ry ⟨z, i, c, rfl, rfl, hl, ?_, k.here rh w rd_str⟩ hsb
    unfold atI
    rw [show z.cps.toList.length = z.length by simp [Str.length]]
    exact ec
  replace w : sq h dx fun xs => itm xs i fun d => Q' d h := by
    cases dx <;> first | exact w | exact absurd ⟨_, rfl⟩ hz
  obtain ⟨ds, e, w⟩ := sq_e w
  obtain ⟨d, g, w⟩ := itm_e w
  obtain ⟨a, vs, rfl, q, sq⟩ := rh.seq e r1
  obtain ⟨z, hz, rz⟩ : ∃ z, atI vs i = some z ∧ RD X.K loc H d z := by
    unfold getAt at g
    unfold atI
    rw [q.length]
    rw [ixAt_eq] at g
    cases j : ixN ds.length i with
    | none => rw [j] at g; cases g
    | some jj =>
      rw [j] at g
      exact q.at_ g
  rcases sq with ⟨sq, _⟩ | ⟨sq, _⟩
  · exact ix_tup value slice pins s σ H _ _ v u Q I rx ry ⟨a, vs, i, z, rfl, rfl, sq, hz, k.here rh w rz⟩ hsb
  · exact ix_list value slice pins s σ H _ _ v u Q I rx ry ⟨a, vs, i, z, rfl, rfl, sq, hz, k.here rh w rz⟩ hsb
theorem RDs.cut {K : PySem.W.Frag} {loc : List Addr} {H : Hp} {ds : List D} {vs : List V} (q : RDs K loc H ds vs) (lo hi : Option Int) : RDs K loc H (cutD ds lo hi) (cutV vs lo hi) := by
  unfold cutD cutV
  rw [q.length]
  exact (q.drop _).take _
def lfSl (K : PySem.W.Frag) : V → Option Int → Option Int → Hp → VK → Prop := fun x lo hi H Q => ∃ loc h dx Q', RH K loc H h ∧ RD K loc H dx x ∧ opSl dx lo hi h Q' ∧ Kx K loc H Q' Q
theorem op_sl : SlR X (lfSl X.K) := by
  intro pins s σ H x v vl vu lo hi sl Q I rx hs pl pu hq
  obtain ⟨loc, h, dx, Q', rh, r1, w, k⟩ := hq
  unfold opSl at w
  cases dx <;> try exact w.elim
  · cases r1.str_
    obtain ⟨c, w⟩ := chk_e w
    exact sl_str pins s σ H _ v vl vu lo hi sl Q I rx hs pl pu ⟨_, rfl, lenOk_i c, k.here rh w rd_str⟩
  · obtain ⟨c, w⟩ := chk_e w
    obtain ⟨a, vs, rfl, sq, q⟩ := r1.tup_
    refine sl_tupF pins s σ H _ v vl vu lo hi sl Q I rx hs pl pu ⟨a, vs, rfl, sq, ?_, k.tup rh w (q.cut lo hi)⟩
    rw [q.length]
    rintro ⟨z1, z2⟩
    rw [decide_eq_true z1, decide_eq_true z2] at c
    cases c
  · rename_i n
    obtain ⟨ds, e, w⟩ := sq_e (show sq h (.ref n) _ from w)
    obtain ⟨a, vs, rfl, q, sq⟩ := rh.seq e r1
    rcases sq with ⟨_, z⟩ | ⟨sq, _⟩
    · cases z
    · exact sl_list pins s σ H _ v vl vu lo hi sl Q I rx hs pl pu ⟨a, vs, rfl, sq, k.new rh w (q.cut lo hi)⟩
theorem RDs.reverse {K : PySem.W.Frag} {loc : List Addr} {H : Hp} {ds : List D} {vs : List V} (q : RDs K loc H ds vs) : RDs K loc H ds.reverse vs.reverse := by
  have l1 := q.length
  refine RDs.of (by simp [l1]) fun i v d a b => ?_
  have hi : i < ds.length := by have := (List.getElem?_eq_some_iff.mp b).1; simpa using this
  rw [List.getElem?_reverse (by omega)] at a
  rw [List.getElem?_reverse hi] at b
  rw [l1] at a
  exact q.pt a b
theorem rev_ok {loc : List Addr} {h : Hh} {dx : D} {Q' : Kd} {x : V} {H : Hp} {Q : VK} (rh : RH X.K loc H h) (r : RD X.K loc H dx x) (w : opRev dx h Q') (k : Kx X.K loc H Q' Q) : rRevL X.K x H Q := by
  unfold opRev at w
  cases dx <;> try exact w.elim
  · obtain ⟨a, vs, rfl, sa, q⟩ := r.tup_
    exact ⟨a, vs, rfl, .inr ⟨sa, k.tup rh w q.reverse⟩⟩
  · rename_i n
    obtain ⟨ds, e, w⟩ := sq_e (show sq h (.ref n) _ from w)
    obtain ⟨a, vs, rfl, q, sq⟩ := rh.seq e r
    rcases sq with ⟨_, z⟩ | ⟨sq, _⟩
    · cases z
    · exact ⟨a, vs, rfl, .inl ⟨sq, k.new rh w q.reverse⟩⟩
end
end Mi

set_option Elab.async false
set_option linter.all false
set_option maxRecDepth 100000
set_option maxHeartbeats 1000000
/-! Mi: built-in calls, methods, stores. -/
namespace Mi
open PySem PySem.Spec PyProof.Rows L2

theorem ints_of {K : PySem.W.Frag} {loc : List Addr} {H : Hp} : ∀ {ds : List D} {vs : List V} {ns : List Int}, RDs K loc H ds vs → intsOf ds = some ns → vs = ns.map V.int
  | [], vs, ns, q, e => by
    cases e
    rw [RDs] at q
    exact q
  | d :: ds, vs, ns, q, e => by
    rw [RDs] at q
    obtain ⟨v, t, rfl, q1, q2⟩ := q
    cases d <;> try cases e
    simp only [intsOf] at e
    cases z : intsOf ds with
    | none => rw [z] at e; cases e
    | some ms =>
      rw [z] at e
      cases e
      cases q1.int_
      rw [ints_of q2 z]
      rfl
theorem maxI_mem : ∀ (m : Int) (ms : List Int), maxI m ms ∈ m :: ms
  | m, [] => List.mem_cons_self
  | m, x :: xs => by
    unfold maxI
    have h := maxI_mem (if x > m then x else m) xs
    by_cases c : x > m
    · rw [if_pos c] at h ⊢
      rcases List.mem_cons.mp h with e | e
      · rw [e]; simp
      · simp [e]
    · rw [if_neg c] at h ⊢
      rcases List.mem_cons.mp h with e | e
      · rw [e]; simp
      · simp [e]
theorem maxI_le : ∀ (m : Int) (ms : List Int), ∀ y ∈ m :: ms, y ≤ maxI m ms
  | m, [], y, h => by simp at h; subst h; exact Int.le_refl _
  | m, x :: xs, y, h => by
    unfold maxI
    have q := maxI_le (if x > m then x else m) xs
    have q0 := q _ List.mem_cons_self
    generalize maxI (if x > m then x else m) xs = M at q q0 ⊢
    rcases List.mem_cons.mp h with e | h
    · subst e; split at q0 <;> omega
    · rcases List.mem_cons.mp h with e | h
      · subst e; split at q0 <;> omega
      · exact q y (List.mem_cons_of_mem _ h)
theorem minI_mem : ∀ (m : Int) (ms : List Int), minI m ms ∈ m :: ms
  | m, [] => List.mem_cons_self
  | m, x :: xs => by
    unfold minI
    have h := minI_mem (if x < m then x else m) xs
    by_cases c : x < m
    · rw [if_pos c] at h ⊢
      rcases List.mem_cons.mp h with e | e
      · rw [e]; simp
      · simp [e]
    · rw [if_neg c] at h ⊢
      rcases List.mem_cons.mp h with e | e
      · rw [e]; simp
      · simp [e]
theorem minI_le : ∀ (m : Int) (ms : List Int), ∀ y ∈ m :: ms, minI m ms ≤ y
  | m, [], y, h => by simp at h; subst h; exact Int.le_refl _
  | m, x :: xs, y, h => by
    unfold minI
    have q := minI_le (if x < m then x else m) xs
    have q0 := q _ List.mem_cons_self
    generalize minI (if x < m then x else m) xs = M at q q0 ⊢
    rcases List.mem_cons.mp h with e | h
    · subst e; split at q0 <;> omega
    · rcases List.mem_cons.mp h with e | h
      · subst e; split at q0 <;> omega
      · exact q y (List.mem_cons_of_mem _ h)
def bltVal : Blt → Value
  | .len => .builtin "len" | .abs => .builtin "abs" | .max => .builtin "max" | .min => .builtin "min" | .sum => .builtin "sum"
  | .int => .type "int" | .tuple => .type "tuple" | .list => .type "list" | .str => .type "str" | .dict => .type "dict"
def bltStr : Blt → Str
  | .len => "len" | .abs => "abs" | .max => "max" | .min => "min" | .sum => "sum" | .int => "int" | .tuple => "tuple" | .list => "list" | .str => "str" | .dict => "dict"
theorem log_lt {n : Nat} (h : n < 2 ^ 100) : n.log2 < 1920 := by
  by_cases z : n = 0
  · subst z; decide
  · have := (Nat.log2_lt z).mpr h
    omega
theorem nuLt_int (a b : Int) : nuLt (.int a) (.int b) = some (decide (a < b)) := rfl
section
variable {X : Cx}
theorem prs_ok {K : PySem.W.Frag} {loc : List Addr} {H : Hp} : ∀ {kvs : List (Str × D)} {vs : List V}, RDs K loc H (kvs.map fun p => D.tup [.str p.1, p.2]) vs → ∃ (ps : List Addr) (ks : List (L2.Key × V)), vs = ps.map V.ref ∧ Paired (fun p kv => SqT K H p [kV kv.1, kv.2]) ps ks ∧ RKs K loc H kvs ks
  | [], vs, r => by
    rw [List.map_nil, RDs] at r
    exact ⟨[], [], r, .nil, rfl⟩
  | p :: kvs, vs, r => by
    rw [List.map_cons, RDs] at r
    obtain ⟨v, t, rfl, q1, q2⟩ := r
    obtain ⟨ps, ks, rfl, e1, e2⟩ := prs_ok q2
    obtain ⟨a, ws, rfl, sa, q⟩ := q1.tup_
    rw [RDs] at q
    obtain ⟨v1, t1, rfl, r1, q⟩ := q
    rw [RDs] at q
    obtain ⟨v2, t2, rfl, r2, q⟩ := q
    rw [RDs] at q
    subst q
    cases r1.str_
    exact ⟨a :: ps, (Sum.inr p.1, v2) :: ks, rfl, .cons sa e1, v2, ks, rfl, r2, e2⟩
theorem call_blt (hc : X.calm = true) (f : Blt) : CallR X (bltVal f) (lfC X.K (opBlt f)) := by
  intro pins s σ H xs us Q I r hq
  obtain ⟨loc, h, ds, Q', rh, rd, w, k⟩ := hq
  cases ds with
  | nil => cases f <;> exact w.elim
  | cons d1 ds =>
  rw [RDs] at rd
  obtain ⟨v1, t1, rfl, q1, rd⟩ := rd
  cases ds with
  | nil =>
    rw [RDs] at rd
    subst rd
    cases f with
    | len =>
      cases d1 with
      | str x =>
        cases q1.str_
        obtain ⟨c, w⟩ := chk_e w
        exact call_len_str pins s σ H _ us Q I r ⟨x, rfl, lenOk_i c, k.here rh w rd_int⟩
      | tup xs =>
        obtain ⟨ys, e, w⟩ := sq_e (K := fun ys => Q' (.int ys.length) h) (show sq h (.tup xs) _ from w)
        obtain ⟨a, vs, rfl, q, sq⟩ := rh.seq e q1
        refine call_len_seq pins s σ H _ us Q I r ⟨a, vs, rfl, sq.elim (fun z => .inr z.1) (fun z => .inl z.1), ?_⟩
        rw [q.length]
        exact k.here rh w rd_int
      | ref n =>
        obtain ⟨ys, e, w⟩ := sq_e (K := fun ys => Q' (.int ys.length) h) (show sq h (.ref n) _ from w)
        obtain ⟨a, vs, rfl, q, sq⟩ := rh.seq e q1
        refine call_len_seq pins s σ H _ us Q I r ⟨a, vs, rfl, sq.elim (fun z => .inr z.1) (fun z => .inl z.1), ?_⟩
        rw [q.length]
        exact k.here rh w rd_int
      | _ => exact w.elim
    | int =>
      cases d1 <;> try exact w.elim
      · cases q1.bl_
        exact call_int1 pins s σ H _ us Q I r (.inr ⟨_, rfl, k.here rh w rd_int⟩)
      · cases q1.int_
        exact call_int1 pins s σ H _ us Q I r (.inl ⟨_, rfl, k.here rh w rd_int⟩)
    | str =>
      cases d1 <;> try exact w.elim
      cases q1.int_
      obtain ⟨c, w⟩ := chk_e w
      exact call_str_int pins s σ H _ us Q I r ⟨_, rfl, log_lt (of_decide_eq_true c), k.here rh w rd_str⟩
    | abs =>
      cases d1 <;> try exact w.elim
      cases q1.int_
      exact call_abs pins s σ H _ us Q I r ⟨_, rfl, k.here rh w rd_int⟩
    | max =>
      cases d1 <;> try exact w.elim
      obtain ⟨ys, e, w⟩ := rdL_e (show rdL h _ _ from w)
      obtain ⟨ms, e2, w⟩ := iLst_e w
      obtain ⟨a, vs, rfl, la, ha, q⟩ := rh.lst e q1
      have ev := ints_of q e2
      subst ev
      cases ms with
      | nil => exact w.elim
      | cons m ms =>
        refine cr_max hc pins s σ H _ us Q I r ⟨a, m :: ms, rfl, SqL.of ha, by simp, fun z hz hl => ?_⟩
        have : z = maxI m ms := Int.le_antisymm (maxI_le m ms z hz) (hl _ (maxI_mem m ms))
        subst this
        exact k.here rh w rd_int
    | min =>
      cases d1 <;> try exact w.elim
      obtain ⟨ys, e, w⟩ := rdL_e (show rdL h _ _ from w)
      obtain ⟨ms, e2, w⟩ := iLst_e w
      obtain ⟨a, vs, rfl, la, ha, q⟩ := rh.lst e q1
      have ev := ints_of q e2
      subst ev
      cases ms with
      | nil => exact w.elim
      | cons m ms =>
        refine cr_min hc pins s σ H _ us Q I r ⟨a, m :: ms, rfl, SqL.of ha, by simp, fun z hz hl => ?_⟩
        have : z = minI m ms := Int.le_antisymm (hl _ (minI_mem m ms)) (minI_le m ms z hz)
        subst this
        exact k.here rh w rd_int
    | sum =>
      cases d1 <;> try exact w.elim
      obtain ⟨ys, e, w⟩ := rdL_e (show rdL h _ _ from w)
      obtain ⟨ms, e2, w⟩ := iLst_e w
      obtain ⟨a, vs, rfl, la, ha, q⟩ := rh.lst e q1
      have ev := ints_of q e2
      subst ev
      exact cr_sum hc pins s σ H _ us Q I r ⟨a, ms, rfl, SqL.of ha, k.here rh w rd_int⟩
    | tuple =>
      obtain ⟨ys, e, w⟩ := sq_e (show sq h d1 _ from w)
      obtain ⟨a, vs, rfl, q, sq⟩ := rh.seq e q1
      rcases sq with ⟨sq, rfl⟩ | ⟨sq, _⟩
      · cases e
        exact call_tupF pins s σ H _ us Q I r ⟨a, vs, rfl, .inr ⟨sq, k.here rh w q1⟩⟩
      · exact call_tupF pins s σ H _ us Q I r ⟨a, vs, rfl, .inl ⟨sq, k.tup rh w q⟩⟩
    | list =>
      obtain ⟨ys, e, w⟩ := sq_e (show sq h d1 _ from w)
      obtain ⟨a, vs, rfl, q, sq⟩ := rh.seq e q1
      exact call_list_of pins s σ H _ us Q I r ⟨a, vs, rfl, sq.elim (fun z => .inr z.1) (fun z => .inl z.1), k.new rh w q⟩
    | dict =>
      cases d1 <;> try exact w.elim
      · obtain ⟨kvs, rfl, z, w⟩ := prsD_e w
        obtain ⟨a, vs, rfl, sa, ba, q⟩ := q1.tupB
        obtain ⟨ps, ks, e1, e2, e3⟩ := prs_ok q
        subst e1
        exact call_dictT hc pins s σ H _ us Q I r ⟨a, ps, ks, rfl, sa, ba, e2, k.newD rh w (RKs.merge e3 rfl)⟩
      obtain ⟨kvs, hn, w⟩ := rdD_e (show rdD h _ _ from w)
      obtain ⟨a, ks, rfl, la, ha, q⟩ := rh.dic hn q1
      exact call_dictD pins s σ H _ us Q I r ⟨a, ks, rfl, .inl ha, k.newD rh w q⟩
  | cons d2 ds =>
    rw [RDs] at rd
    obtain ⟨v2, t2, rfl, q2, rd⟩ := rd
    cases ds with
    | nil =>
      rw [RDs] at rd
      subst rd
      cases f with
      | max =>
        cases d1 <;> cases d2 <;> try exact w.elim
        cases q1.int_
        cases q2.int_
        exact call_max2 hc pins s σ H _ us Q I r ⟨_, _, rfl, k.here rh w rd_int⟩
      | min =>
        cases d1 <;> cases d2 <;> try exact w.elim
        cases q1.int_
        cases q2.int_
        exact call_min2 hc pins s σ H _ us Q I r ⟨_, _, rfl, k.here rh w rd_int⟩
      | _ => cases d1 <;> exact w.elim
    | cons d3 ds =>
      rw [RDs] at rd
      obtain ⟨v3, t3, rfl, q3, rd⟩ := rd
      cases ds with
      | cons d4 ds => cases f <;> cases d1 <;> cases d2 <;> cases d3 <;> exact w.elim
      | nil =>
        rw [RDs] at rd
        subst rd
        cases f with
        | max =>
          cases d1 <;> cases d2 <;> cases d3 <;> try exact w.elim
          rename_i i j k3
          cases q1.int_
          cases q2.int_
          cases q3.int_
          refine call_max3Nu hc pins s σ H _ us Q I r ⟨_, _, _, .int (if k3 > (if j > i then j else i) then k3 else (if j > i then j else i)), rfl, ?_, k.here rh w rd_int⟩
          by_cases c1 : i < j <;> by_cases c2 : j < k3 <;> by_cases c3 : i < k3 <;> simp [nuMax3, nuMax2, nuLt_int, c1, c2, c3]
        | min =>
          cases d1 <;> cases d2 <;> cases d3 <;> try exact w.elim
          rename_i i j k3
          cases q1.int_
          cases q2.int_
          cases q3.int_
          refine call_min3Nu hc pins s σ H _ us Q I r ⟨_, _, _, .int (if k3 < (if j < i then j else i) then k3 else (if j < i then j else i)), rfl, ?_, k.here rh w rd_int⟩
          by_cases c1 : j < i <;> by_cases c2 : k3 < j <;> by_cases c3 : k3 < i <;> simp [nuMin3, nuMin2, nuLt_int, c1, c2, c3]
        | _ => cases d1 <;> cases d2 <;> cases d3 <;> exact w.elim
/-! ### isinstance -/
def tynStr : Tyn → String
  | .int => "int" | .bool => "bool" | .str => "str" | .tuple => "tuple" | .list => "list"
theorem tyx_of {K : PySem.W.Frag} {loc : List Addr} {H : Hp} {d : D} {v : V} {t : Tyn} (r : RD K loc H d v) (e : tyOf d = some t) : TyX K H v (.type (tynStr t)) := by
  cases d with
  | non => cases e
  | bl b => cases e; cases r.bl_; exact .base (.bl _)
  | int i => cases e; cases r.int_; exact .base (.int _)
  | str x => cases e; cases r.str_; exact .base (.str _)
  | tup ds =>
    cases e
    obtain ⟨a, vs, rfl, sq, q⟩ := r.tup_
    rcases sq with (sq | ⟨o, sq⟩) | ⟨o, its, n, sq, hc, _⟩
    · exact .base (.tup sq)
    · exact .fTuple sq
    · exact .kTuple sq hc
  | fn _ => cases e
  | ref n => cases e
theorem kit_tyn {K : PySem.W.Frag} (t u : Tyn) : PySem.W.kitOne K (.type (tynStr t)) (.type (tynStr u)) = some (isTy t u) := by
  cases t <;> cases u <;> rfl
theorem call_isi1 (u : Tyn) : CallR X (.builtin "isinstance") (fun xs H Q => ∃ x, xs = [x, .ty (tynStr u)] ∧ lf1 X.K (fun d h Q => opIsi d [u] h Q) x H Q) := by
  intro pins s σ H xs us Q I r hq
  obtain ⟨x, rfl, loc, h, dx, Q', rh, rd, w, k⟩ := hq
  cases dx with
  | non =>
    cases rd.non_
    refine call_isi pins s σ H _ us Q I r ⟨.non, .ty (tynStr u), .type "NoneType", .type (tynStr u), false, rfl, .ty _, .base .non, ?_, k.here rh w rd_bl⟩
    cases u <;> rfl
  | ref n =>
    obtain ⟨xs, e, w⟩ := rdL_e (show rdL h n _ from w)
    obtain ⟨a, vs, rfl, la, ha, q⟩ := rh.lst e rd
    refine call_isi pins s σ H _ us Q I r ⟨_, .ty (tynStr u), _, .type (tynStr u), isTy .list u, rfl, .ty _, .base (.lst ha), kit_tyn .list u, ?_⟩
    have e2 : (List.any [u] fun u => isTy .list u) = isTy .list u := by simp
    rw [e2] at w
    exact k.here rh w rd_bl
  | _ =>
    simp only [opIsi] at w
    split at w
    · rename_i t e
      refine call_isi pins s σ H _ us Q I r ⟨x, .ty (tynStr u), _, .type (tynStr u), isTy t u, rfl, .ty _, tyx_of rd e, kit_tyn t u, ?_⟩
      have e2 : (List.any [u] fun u => isTy t u) = isTy t u := by simp
      rw [e2] at w
      exact k.here rh w rd_bl
    · exact w.elim
/-! ### methods -/
def mthId : Mth → String
  | .append => "list.append" | .pop => "list.pop" | .popAt => "list.pop" | .extend => "list.extend" | .update => "dict.update" | .index => "tuple.index" | .count => "list.count" | .lindex => "list.index"
def mthStr : Mth → Str
  | .append => "append" | .pop => "pop" | .popAt => "pop" | .extend => "extend" | .update => "update" | .index => "index" | .count => "count" | .lindex => "index"
theorem ixAt_seq {n : Nat} {i : Int} {j : Nat} (h : ixAt n i = some j) : seqIndex? i n = some j := (ixN_seq h).1
section
open PySem PySem.AutoSeq1
set_option maxRecDepth 8000 in
theorem extend_tup (l : Addr) (items : Array Value) (n : Nat) (b : Addr) (items2 : Array Value) (n2 : Nat) (dd : Option Addr) (sl : Array (Option Value)) (hs0 : ¬(!items.isEmpty && Builtin.List.listTooLong (items.size + items2.size)) = true) (hs1 : items.size ≤ sizeLine) (hs2 : items.size + items2.size ≤ sizeLine + 1) :
    Meets (Builtin.«list.extend» ⟨[.ref l, .ref b], []⟩) (fun _ R s => s.heap.get? l = some { cls := .type "list", dict := none, data := .seq items n, slots := #[] } ∧ s.heap.get? b = some { cls := .type "tuple", dict := dd, data := .seq items2 n2, slots := sl } ∧ R (.ok (.ret Value.none)) { s with heap := s.heap.update l (Obj.mapSeq fun x => x ++ items2), toks := s.toks }) :=
  .of_wp fun prog w A R s h => by
    obtain ⟨hp, g, d, tk, os⟩ := s; obtain ⟨hl, hb, h⟩ := h; have f1 := AutoSeq1.idx_int; have f2 := AutoSeq1.sub_tuple_tuple; have f3 := AutoSeq1.sub_list_list; have f4 := AutoSeq1.sub_tuple_list; have f5 := AutoSeq1.sub_list_tuple;
    have hz' : (items ++ items2).size ≤ sizeLine + 1 := by rw [Array.size_append]; exact hs2
    wp_walk using (wpAny_updateSeq hl rfl (hz := hs1) (_hz' := hz')), wpAny_loadPart' hl, wpAny_loadPart' hb; exact ⟨_, rfl, h⟩
end
def rExtendT (K : PySem.W.Frag) : V → List V → Hp → VK → Prop := fun x vs H Q => ∃ l b xs zs, x = .ref l ∧ vs = [.ref b] ∧ H l = some (.lst xs) ∧ SqT K H b zs ∧ xs.length + zs.length ≤ sizeLine ∧ Q .non (upd H l (.lst (xs ++ zs)))
theorem mt_extendT : MtM X "list.extend" (rExtendT X.K) := by
  intro pins s σ H x vs v us Q I rx rv h
  obtain ⟨l, b, xs, zs, rfl, rfl, hH, hB, hz, q⟩ := h
  cases rx
  obtain ⟨u, rfl, ru⟩ := rv.one
  cases ru
  obtain ⟨z, its, n, r, hl, e⟩ := I.lstM hH
  obtain ⟨its2, r2, ⟨o2, e2, c2, n2, d2⟩, z2⟩ := I.tuple hB
  have hl2 := r2.length
  obtain ⟨oc, od, dt, sl⟩ := o2
  simp only at c2 d2
  subst c2 d2
  have hsz : its.toArray.size + its2.toArray.size ≤ sizeLine := by rw [List.size_toArray, List.size_toArray]; omega
  have hlong : ¬ (!its.toArray.isEmpty && Builtin.List.listTooLong (its.toArray.size + its2.toArray.size)) = true := by
    rw [notLongL hsz, Bool.and_false]
    exact Bool.false_ne_true
  refine call_meets F.slot_list_extend ⟨_, e, rfl⟩ F.entry_list_extend (F.args_list_extend_2 _ _)
    (extend_tup l its.toArray n b its2.toArray n2 od sl hlong (by rw [List.size_toArray]; omega) (by omega)) ⟨e, e2, ?_⟩
  refine ⟨.non, _, I.lset (its' := its ++ its2) hH e (by simp) (r.append r2) ?_, rfl, q⟩
  rw [List.length_append]
  omega
theorem getAt_e {xs : List D} {i : Int} {d : D} (g : getAt xs i = some d) : ∃ j, ixAt xs.length i = some j ∧ xs[j]? = some d ∧ (ixAt xs.length i).getD 0 = j := by
  unfold getAt at g
  cases j : ixAt xs.length i with
  | none => rw [j] at g; cases g
  | some jj =>
    rw [j] at g
    exact ⟨jj, rfl, g, rfl⟩
theorem getAt_last {xs : List D} {d : D} (g : getAt xs (-1) = some d) : xs[xs.length - 1]? = some d := by
  obtain ⟨j, hj, e, _⟩ := getAt_e g
  unfold ixAt at hj
  rw [if_neg (by decide)] at hj
  split at hj
  · cases hj
    have : (-1 + (xs.length : Int)).toNat = xs.length - 1 := by omega
    rw [this] at e
    exact e
  · cases hj
theorem rds_strs {K : PySem.W.Frag} {loc : List Addr} {H : Hp} : ∀ {ys : List Str} {vs : List V}, RDs K loc H (ys.map D.str) vs → vs = ys.map V.str
  | [], vs, r => by rw [List.map_nil, RDs] at r; exact r
  | y :: ys, vs, r => by
    rw [List.map_cons, RDs] at r
    obtain ⟨v, t, rfl, q1, q2⟩ := r
    cases q1.str_
    rw [rds_strs q2]
    rfl
theorem meth_ok (m : Mth) : MtR X (mthId m) (lfM X.K (opMeth m)) := by
  intro pins s σ H x xs v us Q I rx rxs hq
  obtain ⟨loc, h, dx, ds, Q', rh, r1, rd, w, k⟩ := hq
  by_cases hm : m = .update
  · subst hm
    cases dx <;> try exact w.elim
    rename_i n
    match ds, rd, w with
    | [], _, w => exact w.elim
    | d :: _ :: _, _, w => cases d <;> exact w.elim
    | [.non], _, w => exact w.elim
    | [.bl _], _, w => exact w.elim
    | [.int _], _, w => exact w.elim
    | [.str _], _, w => exact w.elim
    | [.tup _], _, w => exact w.elim
    | [.fn _], _, w => exact w.elim
    | [.ref m2], rd, w =>
      rw [RDs] at rd
      obtain ⟨v1, t1, rfl, q1, rd⟩ := rd
      rw [RDs] at rd
      subst rd
      obtain ⟨kvs, hn, w⟩ := rdD_e (show rdD h n _ from w)
      obtain ⟨es, hk, w⟩ := rdD_e (show rdD h m2 _ from w)
      obtain ⟨c, w⟩ := chk_e w
      obtain ⟨c1, c2⟩ := Bool.and_eq_true_iff.mp c
      obtain ⟨a, ks, rfl, la, ha, q⟩ := rh.dic hn r1
      obtain ⟨b, ls, rfl, lb, hb, q2⟩ := rh.dic hk q1
      have hab : a ≠ b := by
        rintro rfl
        exact (of_decide_eq_true c1) (rh.inj n m2 a _ _ hn hk rfl rfl la lb)
      exact mt_dupd pins s σ H _ _ v us Q I rx rxs ⟨a, b, ks, ls, rfl, rfl, hab, ha, hb, by rw [q.length, q2.length]; exact lenOk_i c2, k.setD rh hn la (put_e w) (RKs.merge q2 q) rd_non⟩
  by_cases hm2 : m = .index
  · subst hm2
    cases dx <;> try exact w.elim
    rename_i ys
    match ds, rd, w with
    | [], _, w => exact w.elim
    | d :: _ :: _, _, w => cases d <;> exact w.elim
    | [.non], _, w => exact w.elim
    | [.bl _], _, w => exact w.elim
    | [.int _], _, w => exact w.elim
    | [.ref _], _, w => exact w.elim
    | [.tup _], _, w => exact w.elim
    | [.fn _], _, w => exact w.elim
    | [.str z], rd, w =>
      rw [RDs] at rd
      obtain ⟨v1, t1, rfl, q1, rd⟩ := rd
      rw [RDs] at rd
      subst rd
      cases q1.str_
      obtain ⟨zs, j, rfl, hz, no, w⟩ := idx_e (show idx ys z _ from w)
      obtain ⟨a, vs, rfl, sa, q⟩ := r1.tup_
      have ev := rds_strs q
      subst ev
      exact mt_tup_index pins s σ H _ _ v us Q I rx rxs ⟨a, zs, z, j, rfl, rfl, sa, hz, no, k.here rh w rd_int⟩
  obtain ⟨n, rfl⟩ : ∃ n, dx = .ref n := by
    cases m <;> first | exact absurd rfl hm | exact absurd rfl hm2 | skip
    all_goals (cases dx <;> first | exact ⟨_, rfl⟩ | exact w.elim)
  replace w : opMethL m n ds h Q' := by
    cases m <;> first | exact absurd rfl hm | exact absurd rfl hm2 | exact w
  obtain ⟨ys, e, w⟩ := rdL_e (show rdL h n _ from w)
  obtain ⟨a, vs, rfl, la, ha, q⟩ := rh.lst e r1
  cases m with
  | update => exact absurd rfl hm
  | index => exact absurd rfl hm2
  | lindex =>
    match ds, rd, w with
    | [], _, w => exact w.elim
    | _ :: _ :: _, _, w => exact w.elim
    | [.non], _, w => exact w.elim
    | [.bl _], _, w => exact w.elim
    | [.int _], _, w => exact w.elim
    | [.ref _], _, w => exact w.elim
    | [.tup _], _, w => exact w.elim
    | [.fn _], _, w => exact w.elim
    | [.str z], rd, w =>
      rw [RDs] at rd
      obtain ⟨v1, t1, rfl, q1, rd⟩ := rd
      rw [RDs] at rd
      subst rd
      cases q1.str_
      obtain ⟨zs, j, rfl, hz, no, w9⟩ := idx_e (K := fun j => Q' (.int j) h) w
      have ev := rds_strs q
      subst ev
      refine mt_index pins s σ H _ _ v us Q I rx rxs ⟨a, _, .str z, j, .str z, rfl, rfl, SqL.of ha, rfl, flat_strs zs, by rw [List.getElem?_map, hz]; rfl, by show (z == z) = true; exact beq_self_eq_true z, fun m z' hmj e => ?_, k.here rh w9 rd_int⟩
      rw [List.getElem?_map] at e
      cases e2 : zs[m]? with
      | none => rw [e2] at e; cases e
      | some y =>
        rw [e2] at e
        cases e
        show (y == z) = false
        exact beq_eq_false_iff_ne.mpr fun e3 => no m hmj (e3 ▸ e2)
  | count =>
    match ds, rd, w with
    | [], _, w => exact w.elim
    | _ :: _ :: _, _, w => exact w.elim
    | [.non], _, w => exact w.elim
    | [.bl _], _, w => exact w.elim
    | [.int _], _, w => exact w.elim
    | [.ref _], _, w => exact w.elim
    | [.tup _], _, w => exact w.elim
    | [.fn _], _, w => exact w.elim
    | [.str z], rd, w =>
      rw [RDs] at rd
      obtain ⟨v1, t1, rfl, q1, rd⟩ := rd
      rw [RDs] at rd
      subst rd
      cases q1.str_
      obtain ⟨zs, rfl, w9⟩ := cnt_e (K := fun j => Q' (.int j) h) w
      have ev := rds_strs q
      subst ev
      exact mt_countS pins s σ H _ _ v us Q I rx rxs ⟨a, zs, z, rfl, rfl, SqL.of ha, k.here rh w9 rd_int⟩
  | append =>
    match ds, rd, w with
    | [], _, w => exact w.elim
    | _ :: _ :: _, _, w => exact w.elim
    | [d], rd, w =>
      obtain ⟨c, w⟩ := chk_e w
      rw [RDs] at rd
      obtain ⟨v1, t1, rfl, q1, rd⟩ := rd
      rw [RDs] at rd
      subst rd
      exact mt_append pins s σ H _ _ v us Q I rx rxs ⟨a, vs, v1, rfl, rfl, ha, by rw [q.length]; exact of_decide_eq_true c, k.set rh e la (put_e w) (q.append (RDs.cons q1 RDs.nil)) rd_non⟩
  | pop =>
    match ds, rd, w with
    | _ :: _, _, w => exact w.elim
    | [], rd, w =>
      rw [RDs] at rd
      subst rd
      obtain ⟨d, e2, w⟩ := itm_e w
      obtain ⟨z, hz, rz⟩ := q.at_ (getAt_last e2)
      exact mt_pop pins s σ H _ _ v us Q I rx rxs ⟨a, vs, z, rfl, rfl, ha, by rw [q.length]; exact hz, k.set rh e la (put_e w) q.dropLast rz⟩
  | popAt =>
    match ds, rd, w with
    | [], _, w => exact w.elim
    | d :: _ :: _, _, w => cases d <;> exact w.elim
    | [.non], _, w => exact w.elim
    | [.bl _], _, w => exact w.elim
    | [.str _], _, w => exact w.elim
    | [.tup _], _, w => exact w.elim
    | [.ref _], _, w => exact w.elim
    | [.int i], rd, w =>
      rw [RDs] at rd
      obtain ⟨v1, t1, rfl, q1, rd⟩ := rd
      rw [RDs] at rd
      subst rd
      cases q1.int_
      obtain ⟨c, w⟩ := chk_e w
      have c' := of_decide_eq_true c
      obtain ⟨d, e2, w⟩ := itm_e w
      obtain ⟨j, e3, e4, e5⟩ := getAt_e e2
      rw [e5] at w
      obtain ⟨z, hz, rz⟩ := q.at_ e4
      exact mt_popAt pins s σ H _ _ v us Q I rx rxs ⟨a, vs, i, j, z, rfl, rfl, ha, by omega, by omega, by rw [q.length]; exact ixAt_seq e3, hz, k.set rh e la (put_e w) (q.eraseIdx j) rz⟩
  | extend =>
    match ds, rd, w with
    | [], _, w => exact w.elim
    | _ :: _ :: _, _, w => exact w.elim
    | [.non], _, w => exact w.elim
    | [.bl _], _, w => exact w.elim
    | [.int _], _, w => exact w.elim
    | [.str _], _, w => exact w.elim
    | [.tup zs], rd, w =>
      rw [RDs] at rd
      obtain ⟨v1, t1, rfl, q1, rd⟩ := rd
      rw [RDs] at rd
      subst rd
      obtain ⟨c, w⟩ := chk_e w
      obtain ⟨b, ws, rfl, sb, q2⟩ := q1.tup_
      exact mt_extendT pins s σ H _ _ v us Q I rx rxs ⟨a, b, vs, ws, rfl, rfl, ha, sb, by rw [q.length, q2.length]; exact lenOk_i c, k.set rh e la (put_e w) (q.append q2) rd_non⟩
    | [.ref m2], rd, w =>
      rw [RDs] at rd
      obtain ⟨v1, t1, rfl, q1, rd⟩ := rd
      rw [RDs] at rd
      subst rd
      obtain ⟨zs, e2, w⟩ := rdL_e (show rdL h m2 _ from w)
      obtain ⟨c, w⟩ := chk_e w
      obtain ⟨b, ws, rfl, lb, hb, q2⟩ := rh.lst e2 q1
      exact mt_extend pins s σ H _ _ v us Q I rx rxs ⟨a, b, vs, ws, rfl, rfl, ha, hb, by rw [q.length, q2.length]; exact lenOk_i c, k.set rh e la (put_e w) (q.append q2) rd_non⟩
/-! ### stores -/
def lfSet (K : PySem.W.Frag) : TSet := fun o i v H Q => ∃ loc h d1 d2 d3 Q', RH K loc H h ∧ RD K loc H d1 o ∧ RD K loc H d2 i ∧ RD K loc H d3 v ∧ opSet d1 d2 d3 h Q' ∧ ∀ h' H' , Q' h' → Xt K loc H loc H' → RH K loc H' h' → Q H'
theorem set_ok (hu : X.A.units + 64 < cLine) : PSet X (lfSet X.K) := by
  intro pins s σ H o i v ov iv u Q I ro ri rv hq
  obtain ⟨loc, h, d1, d2, d3, Q', rh, r1, r2, r3, w, k⟩ := hq
  cases d1 <;> cases d2 <;> try exact w.elim
  case ref.str n z =>
    cases r2.str_
    obtain ⟨kvs, hn, w⟩ := rdD_e (show rdD h n _ from w)
    obtain ⟨c, w⟩ := chk_e w
    obtain ⟨a, ks, rfl, la, ha, q⟩ := rh.dic hn r1
    have c' := of_decide_eq_true c
    exact set_dict (by omega) pins s σ H _ _ _ ov iv u Q I ro ri rv ⟨a, _, rfl, DPut.k (k := Sum.inr z) ha (by rw [q.length]; exact c'), k _ _ (put_e w) (Xt.hid (.inr (rh.mutH hn rfl la))) (rh.setD hn la (q.put z r3))⟩
  rename_i n j
  cases r2.int_
  obtain ⟨ys, e, w⟩ := rdL_e (show rdL h n _ from w)
  obtain ⟨a, vs, rfl, la, ha, q⟩ := rh.lst e r1
  obtain ⟨d, e2, w⟩ := itm_e w
  obtain ⟨jj, e3, e4, e5⟩ := getAt_e e2
  rw [e5] at w
  exact set_list pins s σ H _ _ _ ov iv u Q I ro ri rv ⟨a, vs, j, jj, rfl, rfl, ha, by rw [q.length]; exact e3, k _ _ (put_e w) (Xt.hid (.inr (rh.mutH e rfl la))) (rh.set e la (q.set jj r3))⟩
end
end Mi

set_option Elab.async false
set_option linter.all false
set_option maxRecDepth 100000
set_option maxHeartbeats 1000000
/-! Mi: loops, comprehensions; readings put together. -/
namespace Mi
open PySem PySem.Spec PyProof.Rows L2

section
variable {bb : BB} {X : Cx} {e : Expr}
theorem pe_imp {t t' : TE} (h : PE X e t) (i : ∀ s H Q, t' s H Q → t s H Q) : PE X e t' := ⟨fun pins s σ H Q I w => h.run pins s σ H Q I (i _ _ _ w)⟩
theorem pt_imp {t t' : TT} (h : PT X e t) (i : ∀ s H Q, t' s H Q → t s H Q) : PT X e t' := ⟨fun pins s σ H Q I w => h.run pins s σ H Q I (i _ _ _ w)⟩
theorem pw_imp {t t' : TT} (h : PW X e t) (i : ∀ s H Q, t' s H Q → t s H Q) : PW X e t' := ⟨fun wh pins s σ H Q I w => h.run wh pins s σ H Q I (i _ _ _ w)⟩
theorem pa_imp {es : List Expr} {t t' : TA} (h : PA X es t) (i : ∀ s H Q, t' s H Q → t s H Q) : PA X es t' := ⟨fun pos pins s σ H Q I w => h.run pos pins s σ H Q I (i _ _ _ w)⟩
theorem pg_imp {t t' : TG} (h : PG X e t) (i : ∀ v s H Q, t' v s H Q → t v s H Q) : PG X e t' := ⟨fun pins s σ H v u Q I r w => h.run pins s σ H v u Q I r (i _ _ _ _ w)⟩
theorem pi_imp {tg : Expr} {t t' : TI} (h : PI X tg e t) (i : ∀ s H Q, t' s H Q → t s H Q) : PI X tg e t' := ⟨fun pins s σ H Q I w => h.run pins s σ H Q I (i _ _ _ w)⟩
theorem ps_imp {st : Stmt} {t t' : TS} (h : PS X st t) (i : ∀ E s H, t' E s H → t E s H) : PS X st t' := ⟨fun pins s σ H D I w => h.run pins s σ H D I (i _ _ _ w)⟩
theorem pss_imp {st : List Stmt} {t t' : TS} (h : PSs X st t) (i : ∀ E s H, t' E s H → t E s H) : PSs X st t' := ⟨fun pins s σ H D I w => h.run pins s σ H D I (i _ _ _ w)⟩

/-! ### what is walked -/
def iSeq (K : PySem.W.Frag) (tl : TE) : TI := fun σ H R => tl σ H fun x H1 => ∃ a, x = .ref a ∧ (((∃ xs, SqL K H1 a xs) ∧ R (Itl K a) H1) ∨ ((∃ xs, SqT K H1 a xs) ∧ R (Itt K a) H1))
theorem pi_seq {tg l : Expr} {tl : TE} (hl : PE X l tl) : PI X tg l (iSeq X.K tl) := by
  refine ⟨fun pins s σ H R I h => ?_⟩
  refine thn (hl.run pins s σ H _ I h) fun v s1 ⟨x, H1, I1, r1, q1⟩ => ?_
  obtain ⟨a, e, q⟩ := q1
  subst e
  cases r1
  rcases q with ⟨⟨xs, hq⟩, q⟩ | ⟨⟨xs, hq⟩, q⟩
  · obtain ⟨its, rv, p, hz⟩ := I1.list hq
    refine wpAny_pyIter_list p.isList ?_
    refine ⟨s1.heap.objs.size, [s1.heap.objs.size], _, _, H1, rfl, I1.kept (t' := s1.toks) fun b o e => Heap.get?_push_of_some _ e, turn_list a _, ⟨_, Heap.get?_push_size _ rfl, rfl, rfl⟩, fun b hb => ?_, q⟩
    have e : b = s1.heap.objs.size := by simpa using hb
    subst e
    exact I1.fpOk (Nat.le_refl _) (I1.hok.fresh (Nat.le_refl _))
  · obtain ⟨its, rv, p, hz⟩ := I1.tuple hq
    refine wpAny_pyIter_tuple (show s1.heap.IsTuple a its.toArray from p) ?_
    refine ⟨s1.heap.objs.size, [s1.heap.objs.size], _, _, H1, rfl, I1.kept (t' := s1.toks) fun b o e => Heap.get?_push_of_some _ e, turn_tuple a _, ⟨_, Heap.get?_push_size _ rfl, rfl, rfl⟩, fun b hb => ?_, q⟩
    have e : b = s1.heap.objs.size := by simpa using hb
    subst e
    exact I1.fpOk (Nat.le_refl _) (I1.hok.fresh (Nat.le_refl _))
/-- what is walked: a list, a tuple, a text -/
def iAny (K : PySem.W.Frag) (te : TE) : TI := fun σ H R => te σ H fun v H1 => (∃ x, v = .str x ∧ R (Its x) H1) ∨ ∃ a : Addr, v = .ref a ∧ (((∃ xs, SqL K H1 a xs) ∧ R (Itl K a) H1) ∨ (∃ xs, SqT K H1 a xs) ∧ R (Itt K a) H1)
theorem pi_any {tg l : Expr} {tl : TE} (hl : PE X l tl) : PI X tg l (iAny X.K tl) := by
  refine ⟨fun pins s σ H R I h => ?_⟩
  refine thn (hl.run pins s σ H _ I h) fun v s1 ⟨x, H1, I1, r1, q1⟩ => ?_
  rcases q1 with ⟨x, ex, q⟩ | ⟨a, e, q⟩
  · subst ex
    obtain ⟨t, rfl⟩ := r1
    cases ha : x.cps.all (· < 128)
    · exact wpAny_pyIter_wide ha (pi_one (tk := s1.toks) I1 _ (turn_str _ x t "str_iterator" (.inr rfl)) ⟨_, Heap.get?_push_size _ rfl, rfl, rfl⟩ q)
    · exact wpAny_pyIter_ascii ha (pi_one (tk := s1.toks) I1 _ (turn_str _ x t "str_ascii_iterator" (.inl rfl)) ⟨_, Heap.get?_push_size _ rfl, rfl, rfl⟩ q)
  subst e
  cases r1
  rcases q with ⟨⟨xs, hq⟩, q⟩ | ⟨⟨xs, hq⟩, q⟩
  · obtain ⟨its, rv, p, hz⟩ := I1.list hq
    refine wpAny_pyIter_list p.isList ?_
    refine ⟨s1.heap.objs.size, [s1.heap.objs.size], _, _, H1, rfl, I1.kept (t' := s1.toks) fun b o e => Heap.get?_push_of_some _ e, turn_list a _, ⟨_, Heap.get?_push_size _ rfl, rfl, rfl⟩, fun b hb => ?_, q⟩
    have e : b = s1.heap.objs.size := by simpa using hb
    subst e
    exact I1.fpOk (Nat.le_refl _) (I1.hok.fresh (Nat.le_refl _))
  · obtain ⟨its, rv, p, hz⟩ := I1.tuple hq
    refine wpAny_pyIter_tuple (show s1.heap.IsTuple a its.toArray from p) ?_
    refine ⟨s1.heap.objs.size, [s1.heap.objs.size], _, _, H1, rfl, I1.kept (t' := s1.toks) fun b o e => Heap.get?_push_of_some _ e, turn_tuple a _, ⟨_, Heap.get?_push_size _ rfl, rfl, rfl⟩, fun b hb => ?_, q⟩
    have e : b = s1.heap.objs.size := by simpa using hb
    subst e
    exact I1.fpOk (Nat.le_refl _) (I1.hok.fresh (Nat.le_refl _))
end
section
variable {bb : BB} {K : PySem.W.Frag} {loc : List Addr} {H : Hp}
theorem sqt_inj {a : Addr} {xs ys : List V} (h : SqT K H a xs) (h' : ∀ zs, SqT K H a zs → zs = xs) (q : SqT K H a ys) : ys = xs := h' _ q
theorem snap_str {z : Str} : SnapJ K (Its z) (sgs z) loc H where
  stop := fun i loc' H' e x => by
    have h := List.getElem?_eq_none_iff.mp e
    unfold sgs at h
    rw [List.length_map] at h
    show z.cps.size ≤ i
    simpa using h
  go := fun i d loc' H' e x => by
    have h := (List.getElem?_eq_some_iff.mp e).1
    unfold sgs at h
    rw [List.length_map] at h
    show i < z.cps.size
    simpa using h
  yld := fun i d loc' H' x H2 h e xt rh ⟨e1, c, e2, e3⟩ => by
    unfold sgs at e
    rw [List.getElem?_map, Array.getElem?_toList, e2] at e
    cases e
    subst e1 e3
    exact ⟨loc', Xt.refl, rh, rd_str⟩
theorem snap_tup {a : Addr} {vs : List V} {ds : List D} (s : SqT K H a vs) (r : RDs K loc H ds vs) : SnapJ K (Itt K a) ds loc H where
  stop := fun i loc' H' e x => ⟨vs, x.tp _ _ s, by rw [r.length]; exact List.getElem?_eq_none_iff.mp e⟩
  go := fun i d loc' H' e x => by
    obtain ⟨v, hv, _⟩ := r.at_ e
    exact ⟨vs, v, x.tp _ _ s, hv⟩
  yld := fun i d loc' H' z H2 h e x rh y => by
    obtain ⟨rfl, y⟩ := y
    have hz := y vs (x.tp _ _ s)
    exact ⟨loc', Xt.refl, rh, (r.pt hz e).mono x⟩
theorem snap_frz {a : Addr} {vs : List V} {ds : List D} (s : Fz K H a vs) (r : RDs K loc H ds vs) : SnapJ K (Itl K a) ds loc H where
  stop := fun i loc' H' e x => ⟨vs, (x.fz _ _ s).sq, by rw [r.length]; exact List.getElem?_eq_none_iff.mp e⟩
  go := fun i d loc' H' e x => by
    obtain ⟨v, hv, _⟩ := r.at_ e
    exact ⟨vs, v, (x.fz _ _ s).sq, hv⟩
  yld := fun i d loc' H' z H2 h e x rh y => by
    obtain ⟨rfl, y⟩ := y
    have hz := y vs (x.fz _ _ s).sq
    exact ⟨loc', Xt.refl, rh, (r.pt hz e).mono x⟩
theorem range_at : ∀ (n : Nat) (lo : Int) (k i : Nat), (range n lo k)[i]? = if i < n then some (.int (lo + (k + i : Nat))) else none
  | 0, lo, k, i => by simp [range]
  | n + 1, lo, k, 0 => by simp [range]
  | n + 1, lo, k, i + 1 => by
    have h := range_at n lo (k + 1) i
    show (range n lo (k + 1))[i]? = _
    rw [h]
    by_cases c : i < n
    · rw [if_pos c, if_pos (by omega)]
      have : k + 1 + i = k + (i + 1) := by omega
      rw [this]
    · rw [if_neg c, if_neg (by omega)]
theorem snap_rng {lo : Int} {n : Nat} : SnapJ K (Itr lo n) (range n lo 0) loc H where
  stop := fun i loc' H' e x => by
    rw [range_at] at e
    split at e
    · cases e
    · show n ≤ i
      omega
  go := fun i d loc' H' e x => by
    rw [range_at] at e
    split at e
    · assumption
    · cases e
  yld := fun i d loc' H' z H2 h e x rh y => by
    obtain ⟨rfl, rfl⟩ := y
    rw [range_at] at e
    split at e
    · cases e
      rw [Nat.zero_add]
      exact ⟨loc', Xt.refl, rh, rd_int⟩
    · cases e
end

section
variable {bb : BB} {X : Cx}
/-! ### loops -/
def wFor (wi : Sg → Hh → (MW → Hh → Prop) → Prop) (g : D → Sg → Hh → (Sg → Hh → Prop) → Prop) (b : Es → Sg → Hh → Prop) : Es → Sg → Hh → Prop := fun R σ h => wi σ h fun w h1 => (match w with
  | .snap xs => loopS g b R xs σ h1
  | .live n => loopL g b R n fuel 0 σ h1)
theorem for_ok {wi : Sg → Hh → (MW → Hh → Prop) → Prop} {g : D → Sg → Hh → (Sg → Hh → Prop) → Prop} {b : Es → Sg → Hh → Prop} {E : Ends} {s : L2.St} {H : Hp} (h : lfS bb X.K (wFor wi g b) E s H) :
    tFor (lfI bb X.K wi) (lfG bb X.K g) (lfS bb X.K b) E s H := by
  obtain ⟨loc, σ, hh, R, rs, rh, w, k⟩ := h
  refine ⟨loc, σ, hh, _, rs, rh, w, fun wk h' J H' loc' q x rh' wj => ?_⟩
  have rs' := rs.mono x
  have k' := k.mono x
  cases wk with
  | snap xs =>
    have wj' : SnapJ X.K J xs loc' H' := wj
    refine ⟨fun i m s2 H2 => ∃ loc2 σ2 h2, Xt X.K loc' H' loc2 H2 ∧ m = (xs.drop i).length ∧ RS bb X.K loc2 H2 σ2 s2 ∧ RH X.K loc2 H2 h2 ∧ loopS g b R (xs.drop i) σ2 h2, ⟨_, loc', σ, h', Xt.refl, rfl, rs', rh', q⟩, ?_⟩
    rintro i m s2 H2 ⟨loc2, σ2, h2, x2, rfl, rs2, rh2, q2⟩
    cases hx : xs[i]? with
    | none =>
      have e : xs.drop i = [] := List.drop_eq_nil_of_le (List.getElem?_eq_none_iff.mp hx)
      rw [e] at q2
      exact .inl ⟨wj'.stop i loc2 H2 hx x2, k'.nx _ _ _ _ loc2 q2 x2 rh2 rs2⟩
    | some d =>
      obtain ⟨hl, hd⟩ := List.getElem?_eq_some_iff.mp hx
      have e : xs.drop i = d :: xs.drop (i + 1) := by rw [List.drop_eq_getElem_cons hl, hd]
      rw [e] at q2
      refine .inr ⟨wj'.go i d loc2 H2 hx x2, fun s3 H3 => ∃ loc3 σ3 h3, Xt X.K loc' H' loc3 H3 ∧ RS bb X.K loc3 H3 σ3 s3 ∧ RH X.K loc3 H3 h3 ∧ loopS g b R (xs.drop (i + 1)) σ3 h3, fun s3 H3 ⟨loc3, σ3, h3, x3, rs3, rh3, q3⟩ => ⟨_, by rw [e]; exact Nat.lt_succ_self _, loc3, σ3, h3, x3, rfl, rs3, rh3, q3⟩, fun v H3 y => ?_⟩
      obtain ⟨loc3, x3, rh3, rd⟩ := wj'.yld i d loc2 H2 v H3 h2 hx x2 rh2 y
      refine ⟨loc3, d, σ2, h2, _, rd, rs2.mono x3, rh3, q2, fun σ4 h4 s4 H4 loc4 q4 x4 rh4 rs4 => ?_⟩
      have xx := x2.trans (x3.trans x4)
      refine ⟨loc4, σ4, h4, _, rs4, rh4, q4, ⟨fun σ5 h5 s5 H5 loc5 q5 x5 rh5 rs5 => ⟨loc5, σ5, h5, xx.trans x5, rs5, rh5, q5⟩, (k'.mono xx).rt, (k'.mono xx).nx, fun σ5 h5 s5 H5 loc5 q5 x5 rh5 rs5 => ⟨loc5, σ5, h5, xx.trans x5, rs5, rh5, q5⟩⟩⟩
  | live n =>
    obtain ⟨a, rfl, la⟩ := (show ∃ a, J = Itl X.K a ∧ loc'[n]? = some a from wj)
    refine ⟨fun i m s2 H2 => ∃ loc2 σ2 h2, Xt X.K loc' H' loc2 H2 ∧ RS bb X.K loc2 H2 σ2 s2 ∧ RH X.K loc2 H2 h2 ∧ loopL g b R n m i σ2 h2, ⟨fuel, loc', σ, h', Xt.refl, rs', rh', q⟩, ?_⟩
    rintro i m s2 H2 ⟨loc2, σ2, h2, x2, rs2, rh2, q2⟩
    cases m with
    | zero => exact q2.elim
    | succ m =>
      unfold loopL at q2
      split at q2
      · rename_i xs hn
        obtain ⟨a2, la2, vs, ha, rr⟩ := rh2.ob n _ hn
        have e2 : a2 = a := Option.some.inj (la2.symm.trans (x2.lc _ _ la))
        subst e2
        split at q2
        · rename_i hx
          exact .inl ⟨⟨vs, SqL.of ha, by rw [rr.length]; exact List.getElem?_eq_none_iff.mp hx⟩, k'.nx _ _ _ _ loc2 q2 x2 rh2 rs2⟩
        · rename_i d hx
          obtain ⟨v0, hv0, rd⟩ := rr.at_ hx
          refine .inr ⟨⟨vs, v0, SqL.of ha, hv0⟩, fun s3 H3 => ∃ loc3 σ3 h3, Xt X.K loc' H' loc3 H3 ∧ RS bb X.K loc3 H3 σ3 s3 ∧ RH X.K loc3 H3 h3 ∧ loopL g b R n m (i + 1) σ3 h3, fun s3 H3 ⟨loc3, σ3, h3, x3, rs3, rh3, q3⟩ => ⟨m, Nat.lt_succ_self _, loc3, σ3, h3, x3, rs3, rh3, q3⟩, fun v H3 y => ?_⟩
          obtain ⟨rfl, y⟩ := y
          have ev : vs[i]? = some v := y vs (SqL.of ha)
          have e3 : v0 = v := Option.some.inj (hv0.symm.trans ev)
          subst e3
          refine ⟨loc2, d, σ2, h2, _, rd, rs2, rh2, q2, fun σ4 h4 s4 H4 loc4 q4 x4 rh4 rs4 => ?_⟩
          have xx := x2.trans x4
          refine ⟨loc4, σ4, h4, _, rs4, rh4, q4, ⟨fun σ5 h5 s5 H5 loc5 q5 x5 rh5 rs5 => ⟨loc5, σ5, h5, xx.trans x5, rs5, rh5, q5⟩, (k'.mono xx).rt, (k'.mono xx).nx, fun σ5 h5 s5 H5 loc5 q5 x5 rh5 rs5 => ⟨loc5, σ5, h5, xx.trans x5, rs5, rh5, q5⟩⟩⟩
      · exact q2.elim
theorem while_ok {c : Sg → Hh → (Bool → Hh → Prop) → Prop} {b : Es → Sg → Hh → Prop} {E : Ends} {s : L2.St} {H : Hp} {n : Nat} (h : lfS bb X.K (fun R σ h => loopW c b R n σ h) E s H) : tWhile (lfT bb X.K c) (lfS bb X.K b) E s H := by
  obtain ⟨loc, σ, hh, R, rs, rh, w, k⟩ := h
  refine ⟨fun m s2 H2 => ∃ loc2 σ2 h2, Xt X.K loc H loc2 H2 ∧ RS bb X.K loc2 H2 σ2 s2 ∧ RH X.K loc2 H2 h2 ∧ loopW c b R m σ2 h2, ⟨n, loc, σ, hh, Xt.refl, rs, rh, w⟩, ?_⟩
  rintro m s2 H2 ⟨loc2, σ2, h2, x2, rs2, rh2, q2⟩
  cases m with
  | zero => exact q2.elim
  | succ m =>
    refine ⟨loc2, σ2, h2, _, rs2, rh2, q2, fun d h3 H3 loc3 q3 x3 rh3 => ?_⟩
    have xx := x2.trans x3
    rcases br_e q3 with ⟨rfl, q3'⟩ | ⟨rfl, q3'⟩
    · refine L2.iteT ?_
      refine ⟨fun s5 H5 => ∃ loc5 σ5 h5, Xt X.K loc H loc5 H5 ∧ RS bb X.K loc5 H5 σ5 s5 ∧ RH X.K loc5 H5 h5 ∧ loopW c b R m σ5 h5, fun s5 H5 q5 => ⟨m, Nat.lt_succ_self _, q5⟩, loc3, σ2, h3, _, rs2.mono x3, rh3, q3', ?_⟩
      exact ⟨fun σ5 h5 s5 H5 loc5 q5 x5 rh5 rs5 => ⟨loc5, σ5, h5, xx.trans x5, rs5, rh5, q5⟩, (k.mono xx).rt, (k.mono xx).nx, fun σ5 h5 s5 H5 loc5 q5 x5 rh5 rs5 => ⟨loc5, σ5, h5, xx.trans x5, rs5, rh5, q5⟩⟩
    · refine L2.iteF ?_
      exact k.nx _ _ _ _ loc3 q3' xx rh3 (rs2.mono x3)
/-! ### comprehensions -/
def wLc (wi : Sg → Hh → (MW → Hh → Prop) → Prop) (g : D → Sg → Hh → (Sg → Hh → Prop) → Prop) (c : Sg → Hh → (Bool → Hh → Prop) → Prop) (e : Sg → Hh → Kd → Prop) (vs : List Nat) : Sg → Hh → Kd → Prop := fun σ h Q => wi σ h fun w h1 => new (.lst []) h1 fun r h2 => (match r with
  | .ref p => (match w with
    | .snap xs => compS g c e (wipes σ vs) p Q xs h2
    | .live n => compL g c e (wipes σ vs) p Q n fuel 0 h2)
  | _ => False)
/-- a target that stores the slots vs alone -/
def OwnG (bb : BB) (K : PySem.W.Frag) (g : D → Sg → Hh → (Sg → Hh → Prop) → Prop) (tg : TG) (vs : List Nat) : Prop := ∀ (loc : List Addr) (d : D) (v : V) (σ : Sg) (s : L2.St) (h : Hh) (H : Hp) (Q : Sg → Hh → Prop) (R : L2.St → Hp → Prop), RD K loc H d v → RS bb K loc H σ s → RH K loc H h → g d σ h Q →
  (∀ s2 σ2, L2.wipe s2 vs = L2.wipe s vs → RS bb K loc H σ2 s2 → Q σ2 h → R s2 H) → tg v s H R
theorem wipe_wipe (s : L2.St) (vs : List Nat) : L2.wipe (L2.wipe s vs) vs = L2.wipe s vs := by
  refine List.ext_getElem? fun i => ?_
  by_cases hi : i ∈ vs
  · have key : ∀ (t : L2.St) (us : List Nat), i ∈ us → (L2.wipe t us)[i]? = if i < t.length then some none else none := by
      intro t us
      induction us with
      | nil => intro h; cases h
      | cons u us ih =>
        intro h
        show ((L2.wipe t us).set u none)[i]? = _
        rw [List.getElem?_set, L2.wipe_length]
        by_cases hu : u = i
        · rw [if_pos hu]
          subst hu
          rfl
        · rw [if_neg hu]
          exact ih (by rcases List.mem_cons.mp h with e | e; exact absurd e.symm hu; exact e)
    rw [key _ _ hi, key _ _ hi, L2.wipe_length]
  · rw [L2.wipe_out hi]
theorem lc_ok {wi : Sg → Hh → (MW → Hh → Prop) → Prop} {g : D → Sg → Hh → (Sg → Hh → Prop) → Prop} {c : Sg → Hh → (Bool → Hh → Prop) → Prop} {e : Sg → Hh → Kd → Prop} {tg : TG} {vs : List Nat} {s : L2.St} {H : Hp} {Q : VK} (og : OwnG bb X.K g tg vs)
    (h : lfE bb X.K (wLc wi g c e vs) s H Q) : tLc (lfI bb X.K wi) tg (lfT bb X.K c) (lfE bb X.K e) vs s H Q := by
  obtain ⟨loc, σ, hh, Q', rs, rh, w, k⟩ := h
  refine ⟨loc, σ, hh, _, rs, rh, w, fun wk h' J H' loc' q x rh' wj p hp => ?_⟩
  replace q := new_e q
  have rs' := (rs.mono x).mono (Xt.new (K := X.K) (u := .lst []) hp)
  have x1 : Xt X.K loc' H' (loc' ++ [p]) (upd H' p (.lst [])) := Xt.new hp
  have rh1 : RH X.K (loc' ++ [p]) (upd H' p (.lst [])) (h' ++ [.lst []]) := rh'.new hp RDs.nil
  have lp : (loc' ++ [p])[h'.length]? = some p := by rw [← rh'.len]; simp
  -- the element's store
  have fin : ∀ {loc4 : List Addr} {H4 : Hp} {y : V} {dy : D} {h4 : Hh} {P : Hh → Prop} {N : Hp → Prop}, Xt X.K (loc' ++ [p]) (upd H' p (.lst [])) loc4 H4 → RH X.K loc4 H4 h4 → RD X.K loc4 H4 dy y →
      (rdL h4 h'.length fun acc => chk (decide (acc.length < sizeLine)) (put h4 h'.length (.lst (acc ++ [dy])) P)) → (∀ h5 H5, P h5 → Xt X.K loc4 H4 loc4 H5 → RH X.K loc4 H5 h5 → N H5) → ∃ acc, H4 p = some (.lst acc) ∧ acc.length < sizeLine ∧ N (upd H4 p (.lst (acc ++ [y]))) := by
    intro loc4 H4 y dy h4 P N x4 rh4 rd4 m nn
    · obtain ⟨acc, hn, m⟩ := rdL_e m
      obtain ⟨c, m⟩ := chk_e m
      obtain ⟨a2, la2, vs2, ha, rr⟩ := rh4.ob _ _ hn
      have e2 : a2 = p := Option.some.inj (la2.symm.trans (x4.lc _ _ lp))
      subst e2
      exact ⟨vs2, ha, by rw [rr.length]; exact of_decide_eq_true c, nn _ _ (put_e m) (Xt.hid (.inr (.inl ⟨_, ha⟩))) (rh4.set hn la2 (rr.append (RDs.cons rd4 RDs.nil)))⟩
  cases wk with
  | snap xs =>
    have wj' : SnapJ X.K J xs loc' H' := wj
    refine ⟨fun i m H2 => ∃ loc2 h2, Xt X.K (loc' ++ [p]) (upd H' p (.lst [])) loc2 H2 ∧ m = (xs.drop i).length ∧ RH X.K loc2 H2 h2 ∧ compS g c e (wipes σ vs) h'.length Q' (xs.drop i) h2, ⟨_, _, _, Xt.refl, rfl, rh1, q⟩, ?_⟩
    rintro i m H2 ⟨loc2, h2, x2, rfl, rh2, q2⟩
    cases hx : xs[i]? with
    | none =>
      have e : xs.drop i = [] := List.drop_eq_nil_of_le (List.getElem?_eq_none_iff.mp hx)
      rw [e] at q2
      exact .inl ⟨wj'.stop i loc2 H2 hx (x1.trans x2), k _ _ _ _ loc2 q2 (x.trans (x1.trans x2)) rh2 (rd_ref (x2.lc _ _ lp))⟩
    | some d =>
      obtain ⟨hl, hd⟩ := List.getElem?_eq_some_iff.mp hx
      have ee : xs.drop i = d :: xs.drop (i + 1) := by rw [List.drop_eq_getElem_cons hl, hd]
      rw [ee] at q2
      refine .inr ⟨wj'.go i d loc2 H2 hx (x1.trans x2), fun H3 => ∃ loc3 h3, Xt X.K (loc' ++ [p]) (upd H' p (.lst [])) loc3 H3 ∧ RH X.K loc3 H3 h3 ∧ compS g c e (wipes σ vs) h'.length Q' (xs.drop (i + 1)) h3, fun H3 ⟨loc3, h3, x3, rh3, q3⟩ => ⟨_, by rw [ee]; exact Nat.lt_succ_self _, loc3, h3, x3, rfl, rh3, q3⟩, fun v H3 y => ?_⟩
      obtain ⟨loc3, x3, rh3, rd⟩ := wj'.yld i d loc2 H2 v H3 h2 hx (x1.trans x2) rh2 y
      have rsw : RS bb X.K loc3 H3 (wipes σ vs) (L2.wipe s vs) := ((rs'.mono x2).mono x3).wipe vs
      refine og loc3 d v _ _ h2 H3 _ _ rd rsw rh3 q2 fun s4 σ4 ws rs4 q4 => ⟨ws.trans (wipe_wipe s vs), loc3, σ4, h2, _, rs4, rh3, q4, fun b h5 H5 loc5 q5 x5 rh5 => ?_⟩
      rcases br_e q5 with ⟨rfl, q5'⟩ | ⟨rfl, q5'⟩
      · refine L2.iteT ?_
        refine ⟨loc5, σ4, h5, _, rs4.mono x5, rh5, q5', fun dy h6 y6 H6 loc6 q6 x6 rh6 rd6 => ?_⟩
        have xx := x2.trans (x3.trans (x5.trans x6))
        exact fin (N := fun H3 => ∃ loc3 h3, Xt X.K (loc' ++ [p]) (upd H' p (.lst [])) loc3 H3 ∧ RH X.K loc3 H3 h3 ∧ compS g c e (wipes σ vs) h'.length Q' (xs.drop (i + 1)) h3) xx rh6 rd6 q6 fun h7 H7 q7 x7 rh7 => ⟨loc6, h7, xx.trans x7, rh7, q7⟩
      · refine L2.iteF ?_
        exact ⟨loc5, h5, x2.trans (x3.trans x5), rh5, q5'⟩
  | live n =>
    obtain ⟨a, rfl, la⟩ := (show ∃ a, J = Itl X.K a ∧ loc'[n]? = some a from wj)
    refine ⟨fun i m H2 => ∃ loc2 h2, Xt X.K (loc' ++ [p]) (upd H' p (.lst [])) loc2 H2 ∧ RH X.K loc2 H2 h2 ∧ compL g c e (wipes σ vs) h'.length Q' n m i h2, ⟨fuel, _, _, Xt.refl, rh1, q⟩, ?_⟩
    rintro i m H2 ⟨loc2, h2, x2, rh2, q2⟩
    cases m with
    | zero => exact q2.elim
    | succ m =>
      unfold compL at q2
      split at q2
      · rename_i xs hn
        obtain ⟨a2, la2, ws, ha, rr⟩ := rh2.ob n _ hn
        have e2 : a2 = a := Option.some.inj (la2.symm.trans ((x1.trans x2).lc _ _ la))
        subst e2
        split at q2
        · rename_i hx
          exact .inl ⟨⟨ws, SqL.of ha, by rw [rr.length]; exact List.getElem?_eq_none_iff.mp hx⟩, k _ _ _ _ loc2 q2 (x.trans (x1.trans x2)) rh2 (rd_ref (x2.lc _ _ lp))⟩
        · rename_i d hx
          obtain ⟨v0, hv0, rd⟩ := rr.at_ hx
          refine .inr ⟨⟨ws, v0, SqL.of ha, hv0⟩, fun H3 => ∃ loc3 h3, Xt X.K (loc' ++ [p]) (upd H' p (.lst [])) loc3 H3 ∧ RH X.K loc3 H3 h3 ∧ compL g c e (wipes σ vs) h'.length Q' n m (i + 1) h3, fun H3 ⟨loc3, h3, x3, rh3, q3⟩ => ⟨m, Nat.lt_succ_self _, loc3, h3, x3, rh3, q3⟩, fun v H3 y => ?_⟩
          obtain ⟨rfl, y⟩ := y
          have ev : ws[i]? = some v := y ws (SqL.of ha)
          have e3 : v0 = v := Option.some.inj (hv0.symm.trans ev)
          subst e3
          have rsw : RS bb X.K loc2 H3 (wipes σ vs) (L2.wipe s vs) := (rs'.mono x2).wipe vs
          refine og loc2 d v0 _ _ h2 H3 _ _ rd rsw rh2 q2 fun s4 σ4 ws rs4 q4 => ⟨ws.trans (wipe_wipe s vs), loc2, σ4, h2, _, rs4, rh2, q4, fun b h5 H5 loc5 q5 x5 rh5 => ?_⟩
          rcases br_e q5 with ⟨rfl, q5'⟩ | ⟨rfl, q5'⟩
          · refine L2.iteT ?_
            refine ⟨loc5, σ4, h5, _, rs4.mono x5, rh5, q5', fun dy h6 y6 H6 loc6 q6 x6 rh6 rd6 => ?_⟩
            have xx := x2.trans (x5.trans x6)
            exact fin (N := fun H3 => ∃ loc3 h3, Xt X.K (loc' ++ [p]) (upd H' p (.lst [])) loc3 H3 ∧ RH X.K loc3 H3 h3 ∧ compL g c e (wipes σ vs) h'.length Q' n m (i + 1) h3) xx rh6 rd6 q6 fun h7 H7 q7 x7 rh7 => ⟨loc6, h7, xx.trans x7, rh7, q7⟩
          · refine L2.iteF ?_
            exact ⟨loc5, h5, x2.trans x5, rh5, q5'⟩
      · exact q2.elim
end
end Mi

set_option Elab.async false
set_option linter.all false
set_option maxRecDepth 100000
set_option maxHeartbeats 1000000
/-! Mi: its words, one by one, are the layer's. -/
namespace Mi
open PySem PySem.Spec PyProof.Rows L2

abbrev TwE := Sg → Hh → Kd → Prop
abbrev TwT := Sg → Hh → (Bool → Hh → Prop) → Prop
abbrev TwA := Sg → Hh → (List D → Hh → Prop) → Prop
abbrev TwG := D → Sg → Hh → (Sg → Hh → Prop) → Prop
abbrev TwI := Sg → Hh → (MW → Hh → Prop) → Prop
abbrev TwS := Es → Sg → Hh → Prop
section
variable {bb : BB} {X : Cx} {a b c e : Expr} {ta tb tc te : TwE} {tt : TwT} {pos p apos : Pos} {es : List Expr} {as : TwA}
theorem s_cst {d : D} {v : V} (h : PE X e (tC v)) (r : ∀ loc H, RD X.K loc H d v) : PE X e (lfE bb X.K fun _ h Q => Q d h) :=
  pe_imp h fun s H Q ⟨loc, σ, hh, Q', rs, rh, w, k⟩ => k.here rh w (r _ _)
theorem s_var {i : Nat} (h : PE X e (tVar i)) : PE X e (lfE bb X.K fun σ h Q => look σ i fun d => Q d h) :=
  pe_imp h fun s H Q ⟨loc, σ, hh, Q', rs, rh, w, k⟩ => by
    have w' : look σ i fun d => Q' d hh := w
    unfold look at w'
    split at w'
    · rename_i d hd
      obtain ⟨v, hv, r⟩ := rs.2.1 i d hd
      exact ⟨v, hv, k.here rh w' r⟩
    · exact w'.elim
theorem s_bin (op : BOp) (ha : PE X a (lfE bb X.K ta)) (hb : PE X b (lfE bb X.K tb)) : PE X (.BinOp a (bopOf op) b pos) (lfE bb X.K fun σ h Q => ta σ h fun x h1 => tb σ h1 fun y h2 => opBin op x y h2 Q) :=
  pe_imp (pe_op (op_bin op) ha hb) fun s H Q ⟨loc, σ, h, Q', rs, rh, w, k⟩ => ⟨loc, σ, h, _, rs, rh, w, fun x h1 vx H1 loc1 q1 x1 rh1 r1 => ⟨loc1, σ, h1, _, rs.mono x1, rh1, q1, fun y h2 vy H2 loc2 q2 x2 rh2 r2 =>
    ⟨loc2, h2, x, y, Q', rh2, r1.mono x2, r2, q2, k.mono (x1.trans x2)⟩⟩⟩
theorem s_neg (ha : PE X a (lfE bb X.K ta)) : PE X (.UnaryOp .USub a pos) (lfE bb X.K fun σ h Q => ta σ h fun x h1 => (match x with | .int i => Q (.int (-i)) h1 | _ => False)) :=
  pe_imp (pe_un un_neg ha) fun s H Q ⟨loc, σ, h, Q', rs, rh, w, k⟩ => ⟨loc, σ, h, _, rs, rh, w, fun x h1 vx H1 loc1 q1 x1 rh1 r1 => by
    cases x <;> try exact q1.elim
    cases r1.int_
    exact ⟨_, rfl, (k.mono x1).here rh1 q1 rd_int⟩⟩
theorem s_not (ha : PE X a (lfE bb X.K ta)) : PE X (.UnaryOp .Not a pos) (lfE bb X.K fun σ h Q => ta σ h fun x h1 => truth x h1 fun b => Q (.bl (!b)) h1) :=
  pe_imp (pe_notT ha) fun s H Q ⟨loc, σ, h, Q', rs, rh, w, k⟩ => ⟨loc, σ, h, _, rs, rh, w, fun x h1 vx H1 loc1 q1 x1 rh1 r1 => by
    obtain ⟨kk, e, q⟩ := truth_ok rh1 r1 q1
    exact ⟨kk, e, (k.mono x1).here rh1 q rd_bl⟩⟩
theorem s_cmp (hu64 : X.A.units + 64 < cLine) (op : COp) (ha : PE X a (lfE bb X.K ta)) (hb : PE X b (lfE bb X.K tb)) (hm : behindInMarks (copOf op) b = false) : PE X (.Compare a [copOf op] [b] pos) (lfE bb X.K fun σ h Q => ta σ h fun x h1 => tb σ h1 fun y h2 => opCmp op x y h2 fun r => Q (.bl r) h2) :=
  pe_imp (pe_cmpR (op_cmp hu64 op) ha hb hm) fun s H Q ⟨loc, σ, h, Q', rs, rh, w, k⟩ => ⟨loc, σ, h, _, rs, rh, w, fun x h1 vx H1 loc1 q1 x1 rh1 r1 => ⟨loc1, σ, h1, _, rs.mono x1, rh1, q1, fun y h2 vy H2 loc2 q2 x2 rh2 r2 =>
    ⟨loc2, h2, x, y, Q', rh2, r1.mono x2, r2, q2, k.mono (x1.trans x2)⟩⟩⟩
theorem sg1_mono {c : Str} {K K' : Nat → Prop} (i : ∀ k, K k → K' k) (w : sg1 c K) : sg1 c K' := by
  obtain ⟨k, rfl, w⟩ := sg1_e w
  exact i k w
theorem opCmp_mono {op : COp} {x y : D} {h : Hh} {R R' : Bool → Prop} (i : ∀ r, R r → R' r) (z : opCmp op x y h R) : opCmp op x y h R' := by
  cases op with
  | isin =>
    by_cases hs : ∃ s, y = .str s
    · obtain ⟨s, rfl⟩ := hs
      cases x <;> first | exact z.elim | exact sg1_mono (fun k q => i _ q) z
    · have z' : sq h y fun xs => chk (isFl x && xs.all isFl) (R (inFlat x xs)) := by
        cases y <;> first | exact z | exact absurd ⟨_, rfl⟩ hs
      obtain ⟨xs, e, w⟩ := sq_e z'
      obtain ⟨z1, z2⟩ := chk_e w
      have g : sq h y fun xs => chk (isFl x && xs.all isFl) (R' (inFlat x xs)) := sq_i e (chk_i z1 (i _ z2))
      cases y <;> first | exact g | exact absurd ⟨_, rfl⟩ hs
  | notin =>
    by_cases hs : ∃ s, y = .str s
    · obtain ⟨s, rfl⟩ := hs
      cases x <;> first | exact z.elim | exact sg1_mono (fun k q => i _ q) z
    · have z' : sq h y fun xs => chk (isFl x && xs.all isFl) (R (!inFlat x xs)) := by
        cases y <;> first | exact z | exact absurd ⟨_, rfl⟩ hs
      obtain ⟨xs, e, w⟩ := sq_e z'
      obtain ⟨z1, z2⟩ := chk_e w
      have g : sq h y fun xs => chk (isFl x && xs.all isFl) (R' (!inFlat x xs)) := sq_i e (chk_i z1 (i _ z2))
      cases y <;> first | exact g | exact absurd ⟨_, rfl⟩ hs
  | eq =>
    cases x <;> cases y <;> first | exact i _ z | exact z.elim | skip
    obtain ⟨z1, z2⟩ := chk_e z
    exact chk_i z1 (i _ z2)
  | _ => cases x <;> cases y <;> first | exact i _ z | exact z.elim
theorem b_cmp (hu64 : X.A.units + 64 < cLine) (op : COp) (ha : PE X a (lfE bb X.K ta)) (hb : PE X b (lfE bb X.K tb)) (hm : behindInMarks (copOf op) b = false) : PT X (.Compare a [copOf op] [b] pos) (lfT bb X.K fun σ h Q => ta σ h fun x h1 => tb σ h1 fun y h2 => opCmp op x y h2 fun r => Q r h2) :=
  pt_imp (pt_cmpR (op_cmp hu64 op) ha hb hm) fun s H Q ⟨loc, σ, h, Q', rs, rh, w, k⟩ => ⟨loc, σ, h, _, rs, rh, w, fun x h1 vx H1 loc1 q1 x1 rh1 r1 => ⟨loc1, σ, h1, _, rs.mono x1, rh1, q1, fun y h2 vy H2 loc2 q2 x2 rh2 r2 =>
    ⟨loc2, h2, x, y, fun d h3 => h3 = h2 ∧ ∃ r, d = .bl r ∧ Q' r h2, rh2, r1.mono x2, r2, opCmp_mono (fun r z => ⟨rfl, r, rfl, z⟩) q2, fun d h3 v3 H3 loc3 q3 x3 rh3 r3 => by
        obtain ⟨rfl, r, rfl, q⟩ := q3
        cases r3.bl_
        exact ⟨r, rfl, k r h3 H3 loc3 q (x1.trans (x2.trans x3)) rh3⟩⟩⟩⟩
theorem s_chain (hu64 : X.A.units + 64 < cLine) (op op' : COp) (ha : PE X a (lfE bb X.K ta)) (hb : PE X b (lfE bb X.K tb)) (hc : PE X c (lfE bb X.K tc)) (hm : lastMarks [copOf op, copOf op'] [b, c] = false) :
    PE X (.Compare a [copOf op, copOf op'] [b, c] pos) (lfE bb X.K fun σ h Q => ta σ h fun x h1 => tb σ h1 fun y h2 => opCmp op x y h2 fun r => br r (tc σ h2 fun z h3 => opCmp op' y z h3 fun r' => Q (.bl r') h3) (Q (.bl false) h2)) :=
  pe_imp (pe_chain (op_cmp hu64 op) (op_cmp hu64 op') ha hb hc hm) fun s H Q ⟨loc, σ, h, Q', rs, rh, w, k⟩ => ⟨loc, σ, h, _, rs, rh, w, fun x h1 vx H1 loc1 q1 x1 rh1 r1 => ⟨loc1, σ, h1, _, rs.mono x1, rh1, q1, fun y h2 vy H2 loc2 q2 x2 rh2 r2 =>
    ⟨loc2, h2, x, y, fun d h3 => h3 = h2 ∧ ∃ r, d = .bl r ∧ br r (tc σ h2 fun z h3 => opCmp op' y z h3 fun r' => Q' (.bl r') h3) (Q' (.bl false) h2), rh2, r1.mono x2, r2, opCmp_mono (fun r z => ⟨rfl, r, rfl, z⟩) q2, fun d h3 v3 H3 loc3 q3 x3 rh3 r3 => by
      obtain ⟨rfl, r, rfl, q⟩ := q3
      cases r3.bl_
      refine ⟨r, rfl, ?_⟩
      rcases br_e q with ⟨rfl, q'⟩ | ⟨rfl, q'⟩
      · exact L2.iteT ⟨loc3, σ, h3, _, ((rs.mono x1).mono x2).mono x3, rh3, q', fun z h4 vz H4 loc4 q4 x4 rh4 r4 => ⟨loc4, h4, y, z, Q', rh4, (r2.mono x3).mono x4, r4, q4, k.mono (x1.trans (x2.trans (x3.trans x4)))⟩⟩
      · exact L2.iteF ((k.mono (x1.trans (x2.trans x3))).here rh3 q' rd_bl)⟩⟩⟩
theorem b_chain (hu64 : X.A.units + 64 < cLine) (op op' : COp) (ha : PE X a (lfE bb X.K ta)) (hb : PE X b (lfE bb X.K tb)) (hc : PE X c (lfE bb X.K tc)) (hm : lastMarks [copOf op, copOf op'] [b, c] = false) :
    PT X (.Compare a [copOf op, copOf op'] [b, c] pos) (lfT bb X.K fun σ h Q => ta σ h fun x h1 => tb σ h1 fun y h2 => opCmp op x y h2 fun r => br r (tc σ h2 fun z h3 => opCmp op' y z h3 fun r' => Q r' h3) (Q false h2)) :=
  pt_imp (pt_chain (op_cmp hu64 op) (op_cmp hu64 op') ha hb hc hm) fun s H Q ⟨loc, σ, h, Q', rs, rh, w, k⟩ => ⟨loc, σ, h, _, rs, rh, w, fun x h1 vx H1 loc1 q1 x1 rh1 r1 => ⟨loc1, σ, h1, _, rs.mono x1, rh1, q1, fun y h2 vy H2 loc2 q2 x2 rh2 r2 =>
    ⟨loc2, h2, x, y, fun d h3 => h3 = h2 ∧ ∃ r, d = .bl r ∧ br r (tc σ h2 fun z h3 => opCmp op' y z h3 fun r' => Q' r' h3) (Q' false h2), rh2, r1.mono x2, r2, opCmp_mono (fun r z => ⟨rfl, r, rfl, z⟩) q2, fun d h3 v3 H3 loc3 q3 x3 rh3 r3 => by
      obtain ⟨rfl, r, rfl, q⟩ := q3
      cases r3.bl_
      refine ⟨r, rfl, ?_⟩
      rcases br_e q with ⟨rfl, q'⟩ | ⟨rfl, q'⟩
      · refine L2.iteT ⟨loc3, σ, h3, _, ((rs.mono x1).mono x2).mono x3, rh3, q', fun z h4 vz H4 loc4 q4 x4 rh4 r4 => ⟨loc4, h4, y, z, fun d h5 => h5 = h4 ∧ ∃ r, d = .bl r ∧ Q' r h4, rh4, (r2.mono x3).mono x4, r4, opCmp_mono (fun r z => ⟨rfl, r, rfl, z⟩) q4, fun d h5 v5 H5 loc5 q5 x5 rh5 r5 => ?_⟩⟩
        obtain ⟨rfl, r, rfl, q⟩ := q5
        cases r5.bl_
        exact ⟨r, rfl, k r h5 H5 loc5 q (x1.trans (x2.trans (x3.trans (x4.trans x5)))) rh5⟩
      · exact L2.iteF ⟨false, rfl, k false h3 H3 loc3 q' (x1.trans (x2.trans x3)) rh3⟩⟩⟩⟩
theorem s_and {rest : List Expr} (ha : PE X a (lfE bb X.K ta)) (hb : PE X (.BoolOp .And (b :: rest) pos) (lfE bb X.K tb)) : PE X (.BoolOp .And (a :: b :: rest) pos) (lfE bb X.K fun σ h Q => ta σ h fun x h1 => (match x with | .bl r => br r (tb σ h1 Q) (Q (.bl false) h1) | _ => False)) :=
  pe_imp (pe_and ha hb) fun s H Q ⟨loc, σ, h, Q', rs, rh, w, k⟩ => ⟨loc, σ, h, _, rs, rh, w, fun x h1 vx H1 loc1 q1 x1 rh1 r1 => by
    cases x <;> try exact q1.elim
    cases r1.bl_
    refine ⟨_, rfl, ?_⟩
    rcases br_e q1 with ⟨rfl, q1'⟩ | ⟨rfl, q1'⟩
    · exact L2.iteT ⟨loc1, σ, h1, Q', rs.mono x1, rh1, q1', k.mono x1⟩
    · exact L2.iteF ((k.mono x1).here rh1 q1' rd_bl)⟩
theorem s_or {rest : List Expr} (ha : PE X a (lfE bb X.K ta)) (hb : PE X (.BoolOp .Or (b :: rest) pos) (lfE bb X.K tb)) : PE X (.BoolOp .Or (a :: b :: rest) pos) (lfE bb X.K fun σ h Q => ta σ h fun x h1 => (match x with | .bl r => br r (Q (.bl true) h1) (tb σ h1 Q) | _ => False)) :=
  pe_imp (pe_or ha hb) fun s H Q ⟨loc, σ, h, Q', rs, rh, w, k⟩ => ⟨loc, σ, h, _, rs, rh, w, fun x h1 vx H1 loc1 q1 x1 rh1 r1 => by
    cases x <;> try exact q1.elim
    cases r1.bl_
    refine ⟨_, rfl, ?_⟩
    rcases br_e q1 with ⟨rfl, q1'⟩ | ⟨rfl, q1'⟩
    · exact L2.iteT ((k.mono x1).here rh1 q1' rd_bl)
    · exact L2.iteF ⟨loc1, σ, h1, Q', rs.mono x1, rh1, q1', k.mono x1⟩⟩
theorem s_ife (ht : PT X c (lfT bb X.K tt)) (ha : PE X a (lfE bb X.K ta)) (hb : PE X b (lfE bb X.K tb)) : PE X (.IfExp c a b pos) (lfE bb X.K fun σ h Q => tt σ h fun r h1 => br r (ta σ h1 Q) (tb σ h1 Q)) :=
  pe_imp (pe_ifExp ht ha hb) fun s H Q ⟨loc, σ, h, Q', rs, rh, w, k⟩ => ⟨loc, σ, h, _, rs, rh, w, fun r h1 H1 loc1 q1 x1 rh1 => by
    rcases br_e q1 with ⟨rfl, q1'⟩ | ⟨rfl, q1'⟩
    · exact L2.iteT ⟨loc1, σ, h1, Q', rs.mono x1, rh1, q1', k.mono x1⟩
    · exact L2.iteF ⟨loc1, σ, h1, Q', rs.mono x1, rh1, q1', k.mono x1⟩⟩
/-! ### tests -/
theorem b_not (ha : PT X a (lfT bb X.K tt)) : PT X (.UnaryOp .Not a pos) (lfT bb X.K fun σ h Q => tt σ h fun b h1 => Q (!b) h1) :=
  pt_imp (pt_not ha) fun s H Q ⟨loc, σ, h, Q', rs, rh, w, k⟩ => ⟨loc, σ, h, _, rs, rh, w, fun r h1 H1 loc1 q1 x1 rh1 => k _ _ _ _ q1 x1 rh1⟩
theorem b_and {rest : List Expr} {t2 : TwT} (ha : PT X a (lfT bb X.K tt)) (hb : PW X (.BoolOp .And (b :: rest) pos) (lfT bb X.K t2)) : PW X (.BoolOp .And (a :: b :: rest) pos) (lfT bb X.K fun σ h Q => tt σ h fun r h1 => br r (t2 σ h1 Q) (Q false h1)) :=
  pw_imp (pw_and ha hb) fun s H Q ⟨loc, σ, h, Q', rs, rh, w, k⟩ => ⟨loc, σ, h, _, rs, rh, w, fun r h1 H1 loc1 q1 x1 rh1 => by
    rcases br_e q1 with ⟨rfl, q1'⟩ | ⟨rfl, q1'⟩
    · exact L2.iteT ⟨loc1, σ, h1, Q', rs.mono x1, rh1, q1', k.mono x1⟩
    · exact L2.iteF (k _ _ _ _ q1' x1 rh1)⟩
theorem b_or {rest : List Expr} {t2 : TwT} (ha : PT X a (lfT bb X.K tt)) (hb : PW X (.BoolOp .Or (b :: rest) pos) (lfT bb X.K t2)) : PW X (.BoolOp .Or (a :: b :: rest) pos) (lfT bb X.K fun σ h Q => tt σ h fun r h1 => br r (Q true h1) (t2 σ h1 Q)) :=
  pw_imp (pw_or ha hb) fun s H Q ⟨loc, σ, h, Q', rs, rh, w, k⟩ => ⟨loc, σ, h, _, rs, rh, w, fun r h1 H1 loc1 q1 x1 rh1 => by
    rcases br_e q1 with ⟨rfl, q1'⟩ | ⟨rfl, q1'⟩
    · exact L2.iteT (k _ _ _ _ q1' x1 rh1)
    · exact L2.iteF ⟨loc1, σ, h1, Q', rs.mono x1, rh1, q1', k.mono x1⟩⟩
theorem b_val (ha : PE X a (lfE bb X.K ta)) (he : ∀ whole, isTrue a X.env whole = (do let v ← whole; standAt a.pos; holding [v] (truthy v))) : PT X a (lfT bb X.K fun σ h Q => ta σ h fun d h1 => truth d h1 fun b => Q b h1) :=
  pt_imp (pt_truth ha he) fun s H Q ⟨loc, σ, h, Q', rs, rh, w, k⟩ => ⟨loc, σ, h, _, rs, rh, w, fun x h1 vx H1 loc1 q1 x1 rh1 r1 => by
    obtain ⟨kk, e, q⟩ := truth_ok rh1 r1 q1
    exact ⟨kk, e, k _ _ _ _ q x1 rh1⟩⟩
/-! ### arguments, displays, calls -/
theorem a_nil : PA X [] (lfA bb X.K fun _ h Q => Q [] h) := pa_imp pa_nil fun s H Q ⟨loc, σ, h, Q', rs, rh, w, k⟩ => k _ _ _ _ loc w Xt.refl rh RDs.nil
theorem a_cons (he : PE X e (lfE bb X.K te)) (hs : PA X es (lfA bb X.K as)) (hst : starEach (e :: es) X.env = (false, eval e X.env) :: starEach es X.env) : PA X (e :: es) (lfA bb X.K fun σ h Q => te σ h fun x h1 => as σ h1 fun xs h2 => Q (x :: xs) h2) :=
  pa_imp (pa_cons he hs hst) fun s H Q ⟨loc, σ, h, Q', rs, rh, w, k⟩ => ⟨loc, σ, h, _, rs, rh, w, fun x h1 vx H1 loc1 q1 x1 rh1 r1 => ⟨loc1, σ, h1, _, rs.mono x1, rh1, q1, fun y h2 vy H2 loc2 q2 x2 rh2 r2 =>
    k _ _ _ _ loc2 q2 (x1.trans x2) rh2 (RDs.cons (r1.mono x2) r2)⟩⟩
theorem s_tup {k1 : Nat} (hs : PA X es (lfA bb X.K as)) : PE X (.Tuple es k1 pos) (lfE bb X.K fun σ h Q => as σ h fun ds h1 => chk (lenOk ds.length) (Q (.tup ds) h1)) :=
  pe_imp (pe_tupF hs) fun s H Q ⟨loc, σ, h, Q', rs, rh, w, k⟩ => ⟨loc, σ, h, _, rs, rh, w, fun x h1 vx H1 loc1 q1 x1 rh1 r1 => by
    obtain ⟨c, q1⟩ := chk_e q1
    exact ⟨by rw [r1.length]; exact lenOk_i c, (k.mono x1).tup rh1 q1 r1⟩⟩
theorem s_lst (hs : PA X es (lfA bb X.K as)) : PE X (.List es pos) (lfE bb X.K fun σ h Q => as σ h fun ds h1 => chk (lenOk ds.length) (new (.lst ds) h1 Q)) :=
  pe_imp (pe_lst hs) fun s H Q ⟨loc, σ, h, Q', rs, rh, w, k⟩ => ⟨loc, σ, h, _, rs, rh, w, fun x h1 vx H1 loc1 q1 x1 rh1 r1 => by
    obtain ⟨c, q1⟩ := chk_e q1
    exact ⟨by rw [r1.length]; exact lenOk_i c, (k.mono x1).new rh1 q1 r1⟩⟩
theorem s_ix (hu64 : X.A.units + 64 < cLine) (ha : PE X a (lfE bb X.K ta)) (hb : PE X b (lfE bb X.K tb)) (hs : PlainIx b) : PE X (.Subscript a b pos) (lfE bb X.K fun σ h Q => ta σ h fun x h1 => tb σ h1 fun y h2 => opIx x y h2 Q) :=
  pe_imp (pe_ix (op_ix hu64) ha hb hs) fun s H Q ⟨loc, σ, h, Q', rs, rh, w, k⟩ => ⟨loc, σ, h, _, rs, rh, w, fun x h1 vx H1 loc1 q1 x1 rh1 r1 => ⟨loc1, σ, h1, _, rs.mono x1, rh1, q1, fun y h2 vy H2 loc2 q2 x2 rh2 r2 =>
    ⟨loc2, h2, x, y, Q', rh2, r1.mono x2, r2, q2, k.mono (x1.trans x2)⟩⟩⟩
/-- what an error may leave, wished for at every slots -/
def XW (K : PySem.W.Frag) (mg : Str → Option Value) (bb : BB) (EX : Ex) (W : WX) : Prop := ∀ σ, σ.length = bb.n → KxX K mg bb.loc bb.H EX (WE W σ)
theorem passN {X : Cx} : Passes (L2.CX X.prog X.w) X E0 := fun _ _ _ _ _ _ _ h => by
  obtain ⟨_, _, _, _, _, _, _, _, _, _, _, _, z⟩ := h
  exact z.elim
theorem takesN {X : Cx} : Takes X (fun _ _ _ _ => False) := fun _ _ ⟨_, _, _, _, _, _, _, _, _, _, _, _, _, _, _, _, w⟩ => w.elim
theorem pe_callS0 {CX : CXT} {k : Nat} {f : Addr} {fd : FuncData} {ps : List Str} {sp : Sp} {E : L2.St → XK} {x : Str} (F : FnOk X.prog X.w X.K X.mg X.base CX k f fd ps sp) (hr : Room k X.A) (hg : Gl X x) (hm : X.mg x = some (.ref f)) (hk : PySem.W.keepIn X.K (.ref f) = true) (hb : Binds X.K fd ps []) (hx : ∀ σ, PassesAt CX X σ (E σ))
    (hdb : (x == ("__debug__" : Str)) = false) : PE X (.Call (.Name x p) [] [] pos) (tCallS sp E tNil) := by
  refine ⟨fun pins s σ H Q I h => ?_⟩
  refine wpAny_Call_Name_kw (ld_glob I hg hm ?_ hdb)
  exact PySem.W.callWith_K0 I.kIn hk (run_fnS (us := []) F hr hb (hx σ) I .nil h)
theorem s_call {W : WX} {EX : Ex} (tk : Takes X W) (xw : XW X.K X.mg bb EX W) {id : Str} {f : Addr} {fd : FuncData} {ps : List Str} {k : Nat} {C : List D → Hh → Kd → Ex → Prop} (F : FnOk X.prog X.w X.K X.mg X.base (L2.CX X.prog X.w) k f fd ps (lfP X.K X.mg C)) (hr : Room k X.A) (hg : Gl X id) (hm : X.mg id = some (.ref f)) (hk : PySem.W.keepIn X.K (.ref f) = true)
    (hb : Binds X.K fd ps []) (hs : PA X (e :: es) (lfA bb X.K as)) (hdb : (id == ("__debug__" : Str)) = false) (he : starEach (e :: es) X.env = (false, eval e X.env) :: starEach es X.env) (hpl : (backTo pos (starEach es X.env)).any (·.1) = false) :
    PE X (.Call (.Name id p) (e :: es) [] pos) (lfE bb X.K fun σ h Q => as σ h fun ds h1 => C ds h1 Q EX) :=
  pe_imp (pe_callS F hr hg hm hk hb (fun σ => passAt tk σ) hs hdb he hpl) fun s H Q ⟨loc, σ, h, Q', rs, rh, w, k⟩ => ⟨loc, σ, h, _, rs, rh, w, fun x h1 vx H1 loc1 q1 x1 rh1 r1 =>
    ⟨loc1, x, h1, Q', EX, r1, rh1, q1, k.mono x1, (xw s (rs.1.trans rs.2.2.2)).mono (rs.2.2.1.trans x1)⟩⟩
theorem s_call0 {W : WX} {EX : Ex} (tk : Takes X W) (xw : XW X.K X.mg bb EX W) {id : Str} {f : Addr} {fd : FuncData} {ps : List Str} {k : Nat} {C : List D → Hh → Kd → Ex → Prop} (F : FnOk X.prog X.w X.K X.mg X.base (L2.CX X.prog X.w) k f fd ps (lfP X.K X.mg C)) (hr : Room k X.A) (hg : Gl X id) (hm : X.mg id = some (.ref f)) (hk : PySem.W.keepIn X.K (.ref f) = true)
    (hb : Binds X.K fd ps []) (hdb : (id == ("__debug__" : Str)) = false) :
    PE X (.Call (.Name id p) [] [] pos) (lfE bb X.K fun σ h Q => C [] h Q EX) :=
  pe_imp (pe_callS0 F hr hg hm hk hb (fun σ => passAt tk σ) hdb) fun s H Q ⟨loc, σ, h, Q', rs, rh, w, k⟩ => ⟨loc, [], h, Q', EX, RDs.nil, rh, w, k, (xw s (rs.1.trans rs.2.2.2)).mono rs.2.2.1⟩
/-! a call by keywords -/
theorem pk_imp {kws : List Keyword} {t t' : TA} (h : PK X kws t) (w : ∀ s H Q, t' s H Q → t s H Q) : PK X kws t' := ⟨fun pos pins s σ H Q I q => h.run pos pins s σ H Q I (w _ _ _ q)⟩
theorem k_nil : PK X [] (lfA bb X.K fun _ h Q => Q [] h) := pk_imp pk_nil fun s H Q ⟨loc, σ, h, Q', rs, rh, w, k⟩ => k _ _ _ _ loc w Xt.refl rh RDs.nil
theorem k_cons {nm : Option Str} {kpos : Pos} {kws : List Keyword} (he : PE X e (lfE bb X.K te)) (hs : PK X kws (lfA bb X.K as)) : PK X (⟨nm, e, kpos⟩ :: kws) (lfA bb X.K fun σ h Q => te σ h fun x h1 => as σ h1 fun xs h2 => Q (x :: xs) h2) :=
  pk_imp (pk_cons he hs) fun s H Q ⟨loc, σ, h, Q', rs, rh, w, k⟩ => ⟨loc, σ, h, _, rs, rh, w, fun x h1 vx H1 loc1 q1 x1 rh1 r1 => ⟨loc1, σ, h1, _, rs.mono x1, rh1, q1, fun y h2 vy H2 loc2 q2 x2 rh2 r2 =>
    k _ _ _ _ loc2 q2 (x1.trans x2) rh2 (RDs.cons (r1.mono x2) r2)⟩⟩
theorem kw_names (pos : Pos) (env : Env) : ∀ kws : List Keyword, (backToKw pos (keywordEach kws env)).map (·.1) = kws.map (·.arg)
  | [] => rfl
  | ⟨nm, v, p⟩ :: kws => congrArg (nm :: ·) (kw_names pos env kws)
theorem kw_all {l : List (Option Str × Sem Value)} {ks : List Str} (h : l.map (·.1) = ks.map some) : l.all (·.1.isSome) = true ∧ l.filterMap (·.1) = ks ∧ l.any (·.1.isNone) = false := by
  induction l generalizing ks with
  | nil => cases ks with
    | nil => exact ⟨rfl, rfl, rfl⟩
    | cons _ _ => cases h
  | cons a l ih => cases ks with
    | nil => cases h
    | cons k ks =>
      obtain ⟨h1, h2⟩ := (List.cons.injEq ..).mp h
      obtain ⟨i1, i2, i3⟩ := ih h2
      have h1 : a.1 = some k := h1
      simp [h1, i1, i2, i3]
theorem pe_callK0 {CX : CXT} {E : L2.St → XK} {sp : Sp} {tk : TA} {id : Str} {f : Addr} {fd : FuncData} {ks : List Str} {kws : List Keyword} {k : Nat} (F : FnOk X.prog X.w X.K X.mg X.base CX k f fd ks sp) (hr : Room k X.A) (hg : Gl X id) (hm : X.mg id = some (.ref f)) (hk : PySem.W.keepIn X.K (.ref f) = true)
    (hb : ∀ (s : Shared) (ws : List Value), ws.length = ks.length → BindsTo s fd ⟨[], ks.zip ws⟩ (ks.zip ws)) (hx : ∀ σ, PassesAt CX X σ (E σ)) (hkw : PK X kws tk) (hn : kws.map (·.arg) = ks.map some) (hdb : (id == ("__debug__" : Str)) = false) :
    PE X (.Call (.Name id p) [] kws pos) (fun σ H Q => tk σ H fun zs H2 => sp zs H2 Q (E σ)) := by
  refine ⟨fun pins s σ H Q I h => ?_⟩
  obtain ⟨a1, a2, a3⟩ := kw_all ((kw_names pos X.env kws).trans hn)
  refine wpAny_Call_Name_kw (ld_glob I hg hm ?_ hdb)
  refine PySem.W.callWith_KW0 (h₀ := X.base) I.ok.mod.kin hk a1 (thn (hkw.run pos pins s σ H _ I h) fun ws s2 ⟨zs, H2, I2, rz, q2⟩ => ⟨I2.kIn, ?_⟩) (by rw [a3]; rfl)
  rw [a2]
  refine wpAny_call (codeAny_mono (F.run X.A X.stack s2 H2 ⟨[], ks.zip ws⟩ ws zs Q _ hr I2.env0 (hb s2 ws (rz.length.symm.trans (F.len _ _ _ _ q2))) rz q2) fun r s' hq => ?_)
  cases r with
  | error e => exact hx σ pins H2 s2 e s' I2 hq
  | ok fl =>
    cases fl with
    | ret u => exact I2.after hq
    | next => exact False.elim hq
    | brk => exact False.elim hq
    | cont => exact False.elim hq
theorem s_callk {W : WX} {EX : Ex} (tk : Takes X W) (xw : XW X.K X.mg bb EX W) {id : Str} {f : Addr} {fd : FuncData} {ks : List Str} {kws : List Keyword} {k : Nat} {C : List D → Hh → Kd → Ex → Prop} (F : FnOk X.prog X.w X.K X.mg X.base (L2.CX X.prog X.w) k f fd ks (lfP X.K X.mg C)) (hr : Room k X.A) (hg : Gl X id) (hm : X.mg id = some (.ref f)) (hk : PySem.W.keepIn X.K (.ref f) = true)
    (hb : ∀ (s : Shared) (ws : List Value), ws.length = ks.length → BindsTo s fd ⟨[], ks.zip ws⟩ (ks.zip ws)) (hs : PK X kws (lfA bb X.K as)) (hn : kws.map (·.arg) = ks.map some) (hdb : (id == ("__debug__" : Str)) = false) :
    PE X (.Call (.Name id p) [] kws pos) (lfE bb X.K fun σ h Q => as σ h fun ds h1 => C ds h1 Q EX) :=
  pe_imp (pe_callK0 F hr hg hm hk hb (fun σ => passAt tk σ) hs hn hdb) fun s H Q ⟨loc, σ, h, Q', rs, rh, w, k⟩ => ⟨loc, σ, h, _, rs, rh, w, fun x h1 vx H1 loc1 q1 x1 rh1 r1 =>
    ⟨loc1, x, h1, Q', EX, r1, rh1, q1, k.mono x1, (xw s (rs.1.trans rs.2.2.2)).mono (rs.2.2.1.trans x1)⟩⟩
/-- a call of a def that a variable holds -/
theorem s_callv {i : Nat} {x : Str} {f : Addr} {fd : FuncData} {ps : List Str} {k : Nat} {C : List D → Hh → Kd → Ex → Prop} {b : Addr → Bool} (F : FnOk X.prog X.w X.K X.mg X.base (L2.CX X.prog X.w) k f fd ps (lfP X.K X.mg C)) (hr : Room k X.A) (hk : PySem.W.keepIn X.K (.ref f) = true)
    (hb : Binds X.K fd ps []) (hN : X.N[i]? = some x) (hv : Vis X.env.scope x) (hs : PA X (e :: es) (lfA bb X.K as)) (hd : (x == ("__debug__" : Str)) = false) (hcd : (x == ("__classdict__" : Str)) = false) (he : starEach (e :: es) X.env = (false, eval e X.env) :: starEach es X.env) (hpl : (backTo pos (starEach es X.env)).any (·.1) = false)
    (hB : ∀ a, b a = true → a = f) :
    PE X (.Call (.Name x p) (e :: es) [] pos) (lfE bb X.K fun σ h Q => look σ i fun d => (match d with | .fn a => chk (b a) (as σ h fun ds h1 => C ds h1 Q EX0) | _ => False)) :=
  pe_imp (ItX.pe_callV (F.raw hb .nil) hr hk passN hN hv hs hd hcd he hpl) fun s H Q ⟨loc, σ, h, Q', rs, rh, w0, k⟩ => by
    have w : look σ i fun d => (match d with | .fn a => chk (b a) (as σ h fun ds h1 => C ds h1 Q' EX0) | _ => False) := w0
    unfold look at w
    split at w
    · rename_i d hd
      cases d <;> try exact w.elim
      obtain ⟨c, w⟩ := chk_e w
      have := hB _ c
      subst this
      obtain ⟨v, hv, r⟩ := rs.2.1 i _ hd
      cases r.fn_
      exact ⟨hv, loc, σ, h, _, rs, rh, w, fun x h1 vx H1 loc1 q1 x1 rh1 r1 => ⟨loc1, x, h1, Q', EX0, by rw [List.append_nil]; exact r1, rh1, q1, k.mono x1, fun _ _ _ _ _ _ _ _ z => z.elim⟩⟩
    · exact w.elim
/-! ### slices -/
abbrev TwO := Sg → Hh → (Option Int → Hh → Prop) → Prop
def lfO (bb : BB) (K : PySem.W.Frag) (t : TwO) : TO := fun s H Q => ∃ loc σ h Q', RS bb K loc H σ s ∧ RH K loc H h ∧ t σ h Q' ∧ ∀ o h' H' loc', Q' o h' → Xt K loc H loc' H' → RH K loc' H' h' → Q o H'
theorem o_none : PO X none (lfO bb X.K fun _ h Q => Q none h) := ⟨fun pins s σ H Q I ⟨loc, σ', h, Q', rs, rh, w, k⟩ => po_none.run pins s σ H Q I (k _ _ _ _ w Xt.refl rh)⟩
theorem o_some (he : PE X e (lfE bb X.K te)) : PO X (some e) (lfO bb X.K fun σ h Q => te σ h fun x h1 => (match x with | .int i => Q (some i) h1 | _ => False)) := ⟨fun pins s σ H Q I ⟨loc, σ', h, Q', rs, rh, w, k⟩ =>
  (po_some he).run pins s σ H Q I ⟨loc, σ', h, _, rs, rh, w, fun x h1 vx H1 loc1 q1 x1 rh1 r1 => by
    cases x <;> try exact q1.elim
    cases r1.int_
    exact ⟨_, rfl, k _ _ _ _ q1 x1 rh1⟩⟩⟩
theorem s_sl {lo hi : Option Expr} {p2 : Pos} {tl th : TwO} (he : PE X e (lfE bb X.K te)) (hl : PO X lo (lfO bb X.K tl)) (hu : PO X hi (lfO bb X.K th)) : PE X (.Subscript e (.Slice lo hi none p2) pos) (lfE bb X.K fun σ h Q => te σ h fun x h1 => tl σ h1 fun l h2 => th σ h2 fun u h3 => opSl x l u h3 Q) :=
  pe_imp (pe_slice op_sl he hl hu) fun s H Q ⟨loc, σ, h, Q', rs, rh, w, k⟩ => ⟨loc, σ, h, _, rs, rh, w, fun x h1 vx H1 loc1 q1 x1 rh1 r1 => ⟨loc1, σ, h1, _, rs.mono x1, rh1, q1, fun l h2 H2 loc2 q2 x2 rh2 => ⟨loc2, σ, h2, _, (rs.mono x1).mono x2, rh2, q2, fun u h3 H3 loc3 q3 x3 rh3 =>
    ⟨loc3, h3, x, Q', rh3, (r1.mono x2).mono x3, q3, k.mono (x1.trans (x2.trans x3))⟩⟩⟩⟩
/-! ### built-ins, methods -/
theorem s_blt (f : Blt) {id : Str} {v : Value} (hc : X.calm = true) (hg : Gl X id) (hid : id = bltStr f) (hm : X.mg id = none) (hs : PA X (e :: es) (lfA bb X.K as)) (he : starEach (e :: es) X.env = (false, eval e X.env) :: starEach es X.env) (hpl : (backTo pos (starEach es X.env)).any (·.1) = false) :
    PE X (.Call (.Name id p) (e :: es) [] pos) (lfE bb X.K fun σ h Q => as σ h fun ds h1 => opBlt f ds h1 Q) := by
  have fin : ∀ {s : L2.St} {H : Hp} {Q : VK}, lfE bb X.K (fun σ h Q => as σ h fun ds h1 => opBlt f ds h1 Q) s H Q → tCB (lfC X.K (opBlt f)) (lfA bb X.K as) s H Q := fun {s H Q} ⟨loc, σ, h, Q', rs, rh, w, k⟩ => ⟨loc, σ, h, _, rs, rh, w, fun x h1 vx H1 loc1 q1 x1 rh1 r1 => ⟨loc1, h1, x, Q', rh1, r1, q1, k.mono x1⟩⟩
  subst hid
  cases f
  · exact pe_imp (pe_callB (call_blt hc .len) hg hm (by decide +kernel) hs (by decide +kernel) (by decide +kernel) he hpl) fun _ _ _ => fin
  · exact pe_imp (pe_callTy (call_blt hc .int) hg hm (by decide +kernel) hs (by decide +kernel) (by decide +kernel) he hpl) fun _ _ _ => fin
  · exact pe_imp (pe_callB (call_blt hc .abs) hg hm (by decide +kernel) hs (by decide +kernel) (by decide +kernel) he hpl) fun _ _ _ => fin
  · exact pe_imp (pe_callB (call_blt hc .max) hg hm (by decide +kernel) hs (by decide +kernel) (by decide +kernel) he hpl) fun _ _ _ => fin
  · exact pe_imp (pe_callB (call_blt hc .min) hg hm (by decide +kernel) hs (by decide +kernel) (by decide +kernel) he hpl) fun _ _ _ => fin
  · exact pe_imp (pe_callTy (call_blt hc .tuple) hg hm (by decide +kernel) hs (by decide +kernel) (by decide +kernel) he hpl) fun _ _ _ => fin
  · exact pe_imp (pe_callTy (call_blt hc .list) hg hm (by decide +kernel) hs (by decide +kernel) (by decide +kernel) he hpl) fun _ _ _ => fin
  · exact pe_imp (pe_callB (call_blt hc .sum) hg hm (by decide +kernel) hs (by decide +kernel) (by decide +kernel) he hpl) fun _ _ _ => fin
  · exact pe_imp (pe_callTy (call_blt hc .str) hg hm (by decide +kernel) hs (by decide +kernel) (by decide +kernel) he hpl) fun _ _ _ => fin
  · exact pe_imp (pe_callTy (call_blt hc .dict) hg hm (by decide +kernel) hs (by decide +kernel) (by decide +kernel) he hpl) fun _ _ _ => fin
theorem s_lset {q : Pos} (hc : X.calm = true) (g1 : Gl X "len") (m1 : X.mg "len" = none) (g2 : Gl X "set") (m2 : X.mg "set" = none) (he : PE X e (lfE bb X.K te)) (na : starEach [e] X.env = (false, eval e X.env) :: starEach [] X.env) :
    PE X (.Call (.Name "len" p) [.Call (.Name "set" p2) [e] [] q] [] pos) (lfE bb X.K fun σ h Q => te σ h fun x h1 => (match x with | .ref n => rdL h1 n fun ys => lsetN ys fun j => Q (.int j) h1 | _ => False)) :=
  pe_imp (pe_lset hc g1 m1 g2 m2 he na) fun s H Q ⟨loc, σ, h, Q', rs, rh, w, k⟩ => ⟨loc, σ, h, _, rs, rh, w, fun x h1 vx H1 loc1 q1 x1 rh1 r1 => by
    cases x <;> try exact q1.elim
    obtain ⟨ds, en, q1⟩ := rdL_e q1
    obtain ⟨ys, rfl, few, q1⟩ := lsetN_e q1
    obtain ⟨a, vs, rfl, la, ha, q⟩ := rh1.lst en r1
    obtain rfl := rds_strs q
    exact ⟨a, ys, rfl, SqL.of ha, few, (k.mono x1).here rh1 q1 rd_int⟩⟩
theorem s_rev {st : Expr} {p2 : Pos} (he : PE X e (lfE bb X.K te)) (hs : PE X st (lfE bb X.K fun _ h Q => Q (.int (-1)) h)) : PE X (.Subscript e (.Slice none none (some st) p2) pos) (lfE bb X.K fun σ h Q => te σ h fun x h1 => opRev x h1 Q) :=
  pe_imp (pe_rev he hs) fun s H Q ⟨loc, σ, h, Q', rs, rh, w, k⟩ => ⟨loc, σ, h, _, rs, rh, w, fun x h1 vx H1 loc1 q1 x1 rh1 r1 => ⟨loc1, σ, h1, fun y h2 => y = .int (-1) ∧ opRev x h2 Q', rs.mono x1, rh1, ⟨rfl, q1⟩, fun y h2 vy H2 loc2 ⟨ey, q2⟩ x2 rh2 r2 => ⟨by subst ey; exact r2.int_, rev_ok rh2 (r1.mono x2) q2 (k.mono (x1.trans x2))⟩⟩⟩
theorem s_isi (u : Tyn) {ty : Expr} (hg : Gl X "isinstance") (hm : X.mg "isinstance" = none) (ha : PE X a (lfE bb X.K ta)) (ht : PE X ty (tC (.ty (tynStr u)))) (hs : PA X [a, ty] (tCons (lfE bb X.K ta) (tCons (tC (.ty (tynStr u))) tNil)))
    (he : starEach [a, ty] X.env = (false, eval a X.env) :: starEach [ty] X.env) (hpl : (backTo pos (starEach [ty] X.env)).any (·.1) = false) :
    PE X (.Call (.Name "isinstance" p) [a, ty] [] pos) (lfE bb X.K fun σ h Q => ta σ h fun x h1 => opIsi x [u] h1 Q) :=
  pe_imp (pe_callB (call_isi1 u) hg hm (by decide +kernel) hs (by decide +kernel) (by decide +kernel) he hpl) fun s H Q ⟨loc, σ, h, Q', rs, rh, w, k⟩ => ⟨loc, σ, h, _, rs, rh, w, fun x h1 vx H1 loc1 q1 x1 rh1 r1 =>
    ⟨vx, rfl, loc1, h1, x, Q', rh1, r1, q1, k.mono x1⟩⟩
theorem s_dnew : PE X (.Dict [] [] pos) (lfE bb X.K fun _ h Q => new (.dic []) h Q) :=
  pe_imp pe_dnewK fun s H Q ⟨loc, σ, h, Q', rs, rh, w, k⟩ => k.newD rh w rfl
theorem s_dlit (ha : PE X a (lfE bb X.K ta)) (hb : PE X b (lfE bb X.K tb)) : PE X (.Dict [some a] [b] pos) (lfE bb X.K fun σ h Q => new (.dic []) h fun r h0 => (match r with
    | .ref p => ta σ h0 fun y h1 => tb σ h1 fun z h2 => (match y with
      | .str s => rdD h2 p fun kvs => chk kvs.isEmpty (put h2 p (.dic [(s, z)]) fun h3 => Q (.ref p) h3)
      | _ => False)
    | _ => False)) :=
  pe_imp (pe_disp (pps_cons ha hb pps_nil) rfl rfl (by simp) (by simp)) fun s H Q ⟨loc, σ, h, Q', rs, rh, w, k⟩ => fun p hp => by
    have w' := new_e w
    have x0 : Xt X.K loc H (loc ++ [p]) (upd H p (.dK [])) := Xt.new hp
    have rh0 : RH X.K (loc ++ [p]) (upd H p (.dK [])) (h ++ [.dic []]) := rh.newD hp rfl
    refine ⟨loc ++ [p], σ, h ++ [.dic []], _, rs.mono x0, rh0, w', fun y h1 vy H1 loc1 q1 x1 rh1 r1 => ⟨loc1, σ, h1, _, (rs.mono x0).mono x1, rh1, q1, fun z h2 vz H2 loc2 q2 x2 rh2 r2 => ?_⟩⟩
    obtain ⟨sx, rfl⟩ : ∃ sx, y = .str sx := by cases y <;> first | exact ⟨_, rfl⟩ | exact q2.elim
    cases (r1.mono x2).str_
    obtain ⟨kvs, hn, q2⟩ := rdD_e (show rdD h2 _ _ from q2)
    obtain ⟨c, q3⟩ := chk_e q2
    have ek : kvs = [] := by cases kvs with | nil => rfl | cons _ _ => cases c
    subst ek
    have lp : (loc ++ [p])[h.length]? = some p := by rw [← rh.len]; simp
    have lp2 := x2.lc _ _ (x1.lc _ _ lp)
    obtain ⟨a', ks, ea, la, ha', rk⟩ := rh2.dic hn (rd_ref lp2)
    cases ea
    obtain rfl : ks = [] := rk
    have x3 : Xt X.K loc2 H2 loc2 (upd H2 p (.dK [((Sum.inr sx : L2.Key), vz)])) := Xt.hid (.inr (.inr ⟨_, ha'⟩))
    have q4 : Q' (.ref h.length) (h2.set h.length (.dic [(sx, z)])) := put_e q3
    have rk2 : RKs X.K loc2 H2 [(sx, z)] [((Sum.inr sx : L2.Key), vz)] := ⟨vz, [], rfl, r2, rfl⟩
    have em : mergeK [] [((Sum.inr sx : L2.Key), vz)] = [((Sum.inr sx : L2.Key), vz)] := by
      show putK [] (Sum.inr sx : L2.Key) vz = _
      unfold putK
      simp
    have g : Q (.ref p) (upd H2 p (.dK (mergeK [] [((Sum.inr sx : L2.Key), vz)]))) := by
      rw [em]
      exact k _ _ _ _ loc2 q4 (((x0.trans x1).trans x2).trans x3) (rh2.setD hn la rk2) (rd_ref lp2)
    exact ⟨ha', [((Sum.inr sx : L2.Key), vz)], rfl, by simp, g⟩
theorem s_dget {cpos : Pos} (hu64 : X.A.units + 64 < cLine) (ha : PE X a (lfE bb X.K ta)) (hb : PE X b (lfE bb X.K tb)) (hc : PE X c (lfE bb X.K tc)) (m : M2 X a "get" apos b c cpos) :
    PE X (.Call (.Attribute a "get" apos) [b, c] [] cpos) (lfE bb X.K fun σ h Q => ta σ h fun d h1 => (match d with
    | .ref n => rdD h1 n fun _ => tb σ h1 fun y h2 => tc σ h2 fun z h3 => (match y with
      | .str s => rdD h3 n fun kvs => Q ((lkD kvs s).getD z) h3
      | _ => False)
    | _ => False)) :=
  pe_imp (pe_dget2 (by omega) ha hb hc m) fun s H Q ⟨loc, σ, h, Q', rs, rh, w, k⟩ => ⟨loc, σ, h, _, rs, rh, w, fun x h1 vx H1 loc1 q1 x1 rh1 r1 => by
    cases x <;> try exact q1.elim
    obtain ⟨k0, hn0, q1⟩ := rdD_e (show rdD h1 _ _ from q1)
    obtain ⟨a, ks0, rfl, la0, ha0, q0⟩ := rh1.dic hn0 r1
    refine ⟨a, rfl, .inl ⟨ks0, .inl ha0⟩, loc1, σ, h1, _, rs.mono x1, rh1, q1, fun y h2 vy H2 loc2 q2 x2 rh2 r2 => ⟨loc2, σ, h2, _, (rs.mono x1).mono x2, rh2, q2, fun z h3 vz H3 loc3 q3 x3 rh3 r3 => ?_⟩⟩
    obtain ⟨sx, rfl⟩ : ∃ sx, y = .str sx := by cases y <;> first | exact ⟨_, rfl⟩ | exact q3.elim
    cases r2.str_
    obtain ⟨kvs, hn, q3⟩ := rdD_e (show rdD h3 _ _ from q3)
    obtain ⟨a2, ks, ea, la, ha, q⟩ := rh3.dic hn (r1.mono (x2.trans x3))
    cases ea
    rcases q.val sx with ⟨e1, e2⟩ | ⟨d, v, e1, e2, rv⟩
    · rw [e1] at q3
      refine ⟨none, by rw [← e2]; exact DGet.k (k := Sum.inr sx) ha, ?_⟩
      exact (k.mono (x1.trans (x2.trans x3))).here rh3 q3 r3
    · rw [e1] at q3
      refine ⟨some v, by rw [← e2]; exact DGet.k (k := Sum.inr sx) ha, ?_⟩
      exact (k.mono (x1.trans (x2.trans x3))).here rh3 q3 rv⟩
def mthT : Mth → String | .update => "dict" | .index => "tuple" | _ => "list"
theorem rcv_ok {K : PySem.W.Frag} {loc : List Addr} {H : Hp} {h : Hh} {m : Mth} {x : D} {v : V} {P : Prop} (hmi : m ≠ .index) (rh : RH K loc H h) (r : RD K loc H x v) (e : rcv m x h P) : tyV K (mthT m) v H ∧ P := by
  cases m
  case update =>
    cases x <;> try exact e.elim
    obtain ⟨ys, hn, e⟩ := rdD_e (show rdD h _ _ from e)
    obtain ⟨a, vs, rfl, la, ha, q⟩ := rh.dic hn r
    exact ⟨.inr (.inr (.inl ⟨rfl, .inl ⟨vs, ha⟩⟩)), e⟩
  case index => exact absurd rfl hmi
  all_goals
    cases x <;> try exact e.elim
    obtain ⟨ys, hn, e⟩ := rdL_e (show rdL h _ _ from e)
    obtain ⟨a, vs, rfl, la, ha, q⟩ := rh.lst hn r
    exact ⟨.inl ⟨rfl, _, SqL.of ha⟩, e⟩
theorem s_meth (m : Mth) (hmi : m ≠ .index) {nm : Str} {cpos : Pos} (hn : nm = mthStr m) (ha : PE X a (lfE bb X.K ta)) (hs : PA X (e :: es) (lfA bb X.K as)) (hbase : attributeBase a nm X.env (eval a X.env) = eval a X.env)
    (hfew : ((backTo cpos (starEach (e :: es) X.env)).all (fun x => !x.1) && (backToKw cpos (keywordEach [] X.env)).all (fun x => x.1.isSome)
      && decide ((e :: es).length + ([] : List Keyword).length + (if ([] : List Keyword).isEmpty then 0 else 1) < 30)) = true)
    (hline : (apos.endLine == cpos.line) = true) (he : starEach (e :: es) X.env = (false, eval e X.env) :: starEach es X.env) (hpl : (backTo cpos (starEach es X.env)).any (·.1) = false) :
    PE X (.Call (.Attribute a nm apos) (e :: es) [] cpos) (lfE bb X.K fun σ h Q => ta σ h fun x h1 => rcv m x h1 (as σ h1 fun ds h2 => opMeth m x ds h2 Q)) := by
  have fin : ∀ {s : L2.St} {H : Hp} {Q : VK}, lfE bb X.K (fun σ h Q => ta σ h fun x h1 => rcv m x h1 (as σ h1 fun ds h2 => opMeth m x ds h2 Q)) s H Q → tBM X.K (mthT m) (lfM X.K (opMeth m)) (lfE bb X.K ta) (lfA bb X.K as) s H Q :=
    fun {s H Q} ⟨loc, σ, h, Q', rs, rh, w, k⟩ => ⟨loc, σ, h, _, rs, rh, w, fun x h1 vx H1 loc1 q1 x1 rh1 r1 => by
      obtain ⟨c, q1⟩ := rcv_ok hmi rh1 r1 q1
      exact ⟨c, loc1, σ, h1, _, rs.mono x1, rh1, q1, fun y h2 vy H2 loc2 q2 x2 rh2 r2 => ⟨loc2, h2, x, y, Q', rh2, r1.mono x2, r2, q2, k.mono (x1.trans x2)⟩⟩⟩
  subst hn
  cases m
  · exact pe_imp (pe_bm PySem.F.plainAttrs_list PySem.F.slot_list_append PySem.F.type_list_append (meth_ok .append) ha hs hbase hfew hline he hpl) fun _ _ _ => fin
  · exact pe_imp (pe_bm PySem.F.plainAttrs_list PySem.F.slot_list_pop PySem.F.type_list_pop (meth_ok .pop) ha hs hbase hfew hline he hpl) fun _ _ _ => fin
  · exact pe_imp (pe_bm PySem.F.plainAttrs_list PySem.F.slot_list_pop PySem.F.type_list_pop (meth_ok .popAt) ha hs hbase hfew hline he hpl) fun _ _ _ => fin
  · exact pe_imp (pe_bm PySem.F.plainAttrs_list PySem.F.slot_list_extend PySem.F.type_list_extend (meth_ok .extend) ha hs hbase hfew hline he hpl) fun _ _ _ => fin
  · exact pe_imp (pe_bm PySem.F.plainAttrs_dict PySem.F.slot_dict_update PySem.F.type_dict_update (meth_ok .update) ha hs hbase hfew hline he hpl) fun _ _ _ => fin
  · exact absurd rfl hmi
  · exact pe_imp (pe_bm PySem.F.plainAttrs_list PySem.F.slot_list_count PySem.F.type_list_count (meth_ok .count) ha hs hbase hfew hline he hpl) fun _ _ _ => fin
  · exact pe_imp (pe_bm PySem.F.plainAttrs_list PySem.F.slot_list_index PySem.F.type_list_index (meth_ok .lindex) ha hs hbase hfew hline he hpl) fun _ _ _ => fin
theorem s_meth0 (m : Mth) (hmi : m ≠ .index) {nm : Str} {cpos : Pos} (hn : nm = mthStr m) (ha : PE X a (lfE bb X.K ta)) (hbase : attributeBase a nm X.env (eval a X.env) = eval a X.env) (hline : (apos.endLine == cpos.line) = true) :
    PE X (.Call (.Attribute a nm apos) [] [] cpos) (lfE bb X.K fun σ h Q => ta σ h fun x h1 => rcv m x h1 (opMeth m x [] h1 Q)) := by
  have fin : ∀ {s : L2.St} {H : Hp} {Q : VK}, lfE bb X.K (fun σ h Q => ta σ h fun x h1 => rcv m x h1 (opMeth m x [] h1 Q)) s H Q → tBM0 X.K (mthT m) (lfM X.K (opMeth m)) (lfE bb X.K ta) s H Q :=
    fun {s H Q} ⟨loc, σ, h, Q', rs, rh, w, k⟩ => ⟨loc, σ, h, _, rs, rh, w, fun x h1 vx H1 loc1 q1 x1 rh1 r1 => by
      obtain ⟨c, q1⟩ := rcv_ok hmi rh1 r1 q1
      exact ⟨c, loc1, h1, x, [], Q', rh1, r1, RDs.nil, q1, k.mono x1⟩⟩
  subst hn
  cases m
  · exact pe_imp (pe_bm0 PySem.F.plainAttrs_list PySem.F.slot_list_append PySem.F.type_list_append (meth_ok .append) ha hbase hline) fun _ _ _ => fin
  · exact pe_imp (pe_bm0 PySem.F.plainAttrs_list PySem.F.slot_list_pop PySem.F.type_list_pop (meth_ok .pop) ha hbase hline) fun _ _ _ => fin
  · exact pe_imp (pe_bm0 PySem.F.plainAttrs_list PySem.F.slot_list_pop PySem.F.type_list_pop (meth_ok .popAt) ha hbase hline) fun _ _ _ => fin
  · exact pe_imp (pe_bm0 PySem.F.plainAttrs_list PySem.F.slot_list_extend PySem.F.type_list_extend (meth_ok .extend) ha hbase hline) fun _ _ _ => fin
  · exact pe_imp (pe_bm0 PySem.F.plainAttrs_dict PySem.F.slot_dict_update PySem.F.type_dict_update (meth_ok .update) ha hbase hline) fun _ _ _ => fin
  · exact absurd rfl hmi
  · exact pe_imp (pe_bm0 PySem.F.plainAttrs_list PySem.F.slot_list_count PySem.F.type_list_count (meth_ok .count) ha hbase hline) fun _ _ _ => fin
  · exact pe_imp (pe_bm0 PySem.F.plainAttrs_list PySem.F.slot_list_index PySem.F.type_list_index (meth_ok .lindex) ha hbase hline) fun _ _ _ => fin
theorem s_methT {nm : Str} {cpos : Pos} (hn : nm = mthStr .index) (ha : PE X a (lfE bb X.K ta)) (hs : PA X (e :: es) (lfA bb X.K as)) (hbase : attributeBase a nm X.env (eval a X.env) = eval a X.env)
    (hfew : ((backTo cpos (starEach (e :: es) X.env)).all (fun x => !x.1) && (backToKw cpos (keywordEach [] X.env)).all (fun x => x.1.isSome)
      && decide ((e :: es).length + ([] : List Keyword).length + (if ([] : List Keyword).isEmpty then 0 else 1) < 30)) = true)
    (hline : (apos.endLine == cpos.line) = true) (he : starEach (e :: es) X.env = (false, eval e X.env) :: starEach es X.env) (hpl : (backTo cpos (starEach es X.env)).any (·.1) = false) :
    PE X (.Call (.Attribute a nm apos) (e :: es) [] cpos) (lfE bb X.K fun σ h Q => ta σ h fun x h1 => rcv .index x h1 (as σ h1 fun ys h2 => opMeth .index x ys h2 Q)) := by
  subst hn
  exact pe_imp (pe_tM PySem.F.slot_tuple_index PySem.F.type_tuple_index (meth_ok .index) ha hs hbase hfew hline he hpl) fun s H Q ⟨loc, σ, h, Q', rs, rh, w, k⟩ => ⟨loc, σ, h, _, rs, rh, w, fun x h1 vx H1 loc1 q1 x1 rh1 r1 => by
    cases x <;> try exact q1.elim
    obtain ⟨a, vs, rfl, sa, ba, q⟩ := r1.tupB
    exact ⟨⟨a, vs, rfl, sa, ba⟩, loc1, σ, h1, _, rs.mono x1, rh1, q1, fun y h2 vy H2 loc2 q2 x2 rh2 r2 => ⟨loc2, h2, .tup _, y, Q', rh2, r1.mono x2, r2, q2, k.mono (x1.trans x2)⟩⟩⟩
/-! ### targets -/
theorem puts_ok {K : PySem.W.Frag} {loc : List Addr} {H : Hp} : ∀ {is : List Nat} {ds : List D} {vs : List V} {σ : Sg} {s : L2.St} {Q : Sg → Prop}, RDs K loc H ds vs → RS bb K loc H σ s → puts is ds σ Q → is.length = vs.length ∧ ∃ σ', RS bb K loc H σ' ((is.zip vs).foldl (fun s p => s.set p.1 (some p.2)) s) ∧ Q σ'
  | [], [], vs, σ, s, Q, r, rs, w => by
    rw [RDs] at r
    subst r
    exact ⟨rfl, σ, rs, w⟩
  | i :: is, d :: ds, vs, σ, s, Q, r, rs, w => by
    rw [RDs] at r
    obtain ⟨v, t, rfl, r1, r2⟩ := r
    obtain ⟨hl, σ', rs', q⟩ := puts_ok (is := is) r2 (rs.set i r1) w
    exact ⟨by simp [hl], σ', rs', q⟩
  | [], _ :: _, _, _, _, _, _, _, w => w.elim
  | _ :: _, [], _, _, _, _, _, _, w => w.elim
theorem g_name {i : Nat} {tg : Expr} (hg : PG X tg (gName i)) : PG X tg (lfG bb X.K fun d σ h Q => Q (σ.set i (some d)) h) :=
  pg_imp hg fun v s H Q ⟨loc, d, σ, h, Q', rd, rs, rh, w, k⟩ => k _ _ _ _ loc w Xt.refl rh (rs.set i rd)
/-- the names' targets, one by one -/
def gNames : List Nat → TGs
  | [] => gNil
  | i :: is => gCons (gName i) (gNames is)
theorem gNames_ok : ∀ {is : List Nat} {vs : List V} {s : L2.St} {H : Hp} {Q : L2.St → Hp → Prop}, is.length = vs.length → Q ((is.zip vs).foldl (fun s p => s.set p.1 (some p.2)) s) H → gNames is vs s H Q
  | [], [], _, _, _, _, q => ⟨rfl, q⟩
  | i :: is, v :: vs, s, H, Q, e, q => ⟨v, vs, rfl, gNames_ok (by simpa using e) q⟩
  | [], _ :: _, _, _, _, e, _ => by cases e
  | _ :: _, [], _, _, _, e, _ => by cases e
theorem g_tup {is : List Nat} {ts : List Expr} {k1 : Nat} (hc : X.calm = true) (hg : PGs X ts (gNames is)) (hn : (assignEach ts X.env).length = is.length) (hst : (assignEach ts X.env).findIdx? (·.1) = none) :
    PG X (.Tuple ts k1 pos) (lfG bb X.K fun d σ h Q => (match d with
      | .tup ds => puts is ds σ fun σ1 => Q σ1 h
      | _ => False)) :=
  pg_imp (pg_tup hc hg hn hst) fun v s H Q ⟨loc, d, σ, h, Q', rd, rs, rh, w, k⟩ => by
    cases d <;> try exact w.elim
    obtain ⟨a, vs, rfl, sq, r⟩ := rd.tup_
    obtain ⟨hl, σ', rs', q⟩ := puts_ok r rs w
    exact ⟨a, vs, rfl, sq, hl.symm, gNames_ok hl (k _ _ _ _ loc q Xt.refl rh rs')⟩
theorem g_sub {o i : Expr} (hu64 : X.A.units + 64 < cLine) (ho : PE X o (lfE bb X.K ta)) (hi : PE X i (lfE bb X.K tb)) (hass : ∀ v, assign (.Subscript o i pos) X.env v = (do
      let ov ← holding [v] (eval o X.env)
      let iv ← holding [v, ov] (eval i X.env)
      standAt pos
      holding [v, ov, iv] (setItem ov iv v)
      release [v, ov, iv] [])) : PG X (.Subscript o i pos) (lfG bb X.K fun d σ h Q => ta σ h fun o h1 => tb σ h1 fun k h2 => opSet o k d h2 fun h3 => Q σ h3) :=
  pg_imp (pg_sub ho hi (set_ok hu64) hass) fun v s H Q ⟨loc, d, σ, h, Q', rd, rs, rh, w, k⟩ => ⟨loc, σ, h, _, rs, rh, w, fun x h1 vx H1 loc1 q1 x1 rh1 r1 => ⟨loc1, σ, h1, _, rs.mono x1, rh1, q1, fun y h2 vy H2 loc2 q2 x2 rh2 r2 =>
    ⟨loc2, h2, x, y, d, _, rh2, r1.mono x2, r2, (rd.mono x1).mono x2, q2, fun h3 H3 q3 x3 rh3 => k _ _ _ _ loc2 q3 (x1.trans (x2.trans x3)) rh3 (((rs.mono x1).mono x2).mono x3)⟩⟩⟩
theorem wipe_at (s : L2.St) (j : Nat) : ∀ vs : List Nat, (L2.wipe s vs)[j]? = if j ∈ vs then (if j < s.length then some none else none) else s[j]?
  | [] => by simp [L2.wipe]
  | v :: vs => by
    have ih := wipe_at s j vs
    show ((L2.wipe s vs).set v none)[j]? = _
    rw [List.getElem?_set, L2.wipe_length]
    by_cases hv : v = j
    · subst hv
      simp
    · rw [if_neg hv, ih]
      have e : (j ∈ v :: vs) = (j ∈ vs) := by
        simp only [List.mem_cons, eq_iff_iff]
        exact ⟨fun h => h.resolve_left fun z => hv z.symm, .inr⟩
      simp only [e]
theorem wipe_set {s : L2.St} {i : Nat} {v : Option V} {vs : List Nat} (hi : i ∈ vs) : L2.wipe (s.set i v) vs = L2.wipe s vs := by
  refine List.ext_getElem? fun j => ?_
  rw [wipe_at, wipe_at]
  by_cases hj : j ∈ vs
  · rw [if_pos hj, if_pos hj, List.length_set]
  · rw [if_neg hj, if_neg hj]
    have : i ≠ j := fun e => hj (e ▸ hi)
    rw [List.getElem?_set_ne this]
theorem wipe_sets {vs : List Nat} : ∀ {is : List Nat} {ws : List V} {s : L2.St}, (∀ i ∈ is, i ∈ vs) → L2.wipe ((is.zip ws).foldl (fun s p => s.set p.1 (some p.2)) s) vs = L2.wipe s vs
  | [], _, _, _ => rfl
  | _ :: _, [], _, _ => rfl
  | i :: is, w :: ws, s, h => by
    show L2.wipe ((is.zip ws).foldl _ (s.set i (some w))) vs = _
    rw [wipe_sets fun j hj => h j (List.mem_cons_of_mem _ hj), wipe_set (h i List.mem_cons_self)]
theorem own_name {K : PySem.W.Frag} {i : Nat} {vs : List Nat} (hi : i ∈ vs) : OwnG bb K (fun d σ h Q => Q (σ.set i (some d)) h) (gName i) vs := fun loc d v σ s h H Q R rd rs rh w k =>
  k _ _ (wipe_set hi) (rs.set i rd) w
theorem own_tup {K : PySem.W.Frag} {is vs : List Nat} (hi : ∀ i ∈ is, i ∈ vs) : OwnG bb K (fun d σ h Q => (match d with
      | .tup ds => puts is ds σ fun σ1 => Q σ1 h
      | _ => False)) (gTup K is.length (gNames is)) vs := fun loc d v σ s h H Q R rd rs rh w k => by
  cases d <;> try exact w.elim
  obtain ⟨a, ws, rfl, sq, r⟩ := rd.tup_
  obtain ⟨hl, σ', rs', q⟩ := puts_ok r rs w
  exact ⟨a, ws, rfl, sq, hl.symm, gNames_ok hl (k _ _ (wipe_sets hi) rs' q)⟩
/-! ### what is walked -/
theorem i_seq {tg : Expr} (he : PE X e (lfE bb X.K te)) : PI X tg e (lfI bb X.K fun σ h Q => te σ h fun d h1 => walkOf h1 d fun w => Q w h1) :=
  pi_imp (pi_any he) fun s H R ⟨loc, σ, h, Q', rs, rh, w, k⟩ => ⟨loc, σ, h, _, rs, rh, w, fun x h1 vx H1 loc1 q1 x1 rh1 r1 => by
    cases x <;> try exact q1.elim
    · cases r1.str_
      exact .inl ⟨_, rfl, k _ _ _ _ loc1 q1 x1 rh1 snap_str⟩
    · obtain ⟨a, vs, rfl, sq, r⟩ := r1.tup_
      exact .inr ⟨a, rfl, .inr ⟨⟨vs, sq⟩, k _ _ _ _ loc1 q1 x1 rh1 (snap_tup sq r)⟩⟩
    · rename_i n
      obtain ⟨o, hn, q1⟩ := rdO_e (show rdO h1 n _ from q1)
      cases o with
      | lst ys =>
        obtain ⟨a, vs, rfl, la, ha, q⟩ := rh1.lst hn r1
        exact .inr ⟨a, rfl, .inl ⟨⟨vs, SqL.of ha⟩, k _ _ _ _ loc1 q1 x1 rh1 ⟨a, rfl, la⟩⟩⟩
      | frz ys =>
        obtain ⟨a, rfl, la⟩ := r1.ref_
        obtain ⟨b, lb, vs, fz, r⟩ := rh1.ob n _ hn
        cases la.symm.trans lb
        exact .inr ⟨a, rfl, .inl ⟨⟨vs, fz.sq⟩, k _ _ _ _ loc1 q1 x1 rh1 (snap_frz fz r)⟩⟩
      | dic _ => exact q1.elim⟩
theorem i_rng1 {tg : Expr} (hg : Gl X "range") (hm : X.mg "range" = none) (ha : PE X a (lfE bb X.K ta)) (hs : starEach [a] X.env = [(false, eval a X.env)]) : PI X tg (.Call (.Name "range" p) [a] [] pos) (lfI bb X.K fun σ h Q => ta σ h fun d h1 => (match d with
    | .int n => chk (decide (n.natAbs < 2 ^ 62)) (Q (.snap (range n.toNat 0 0)) h1)
    | _ => False)) :=
  pi_imp (pi_range1 hg hm (pa_cons ha pa_nil hs) hs) fun s H R ⟨loc, σ, h, Q', rs, rh, w, k⟩ => ⟨loc, σ, h, _, rs, rh, w, fun x h1 vx H1 loc1 q1 x1 rh1 r1 => by
    cases x <;> try exact q1.elim
    cases r1.int_
    obtain ⟨c, q1⟩ := chk_e q1
    have c' := of_decide_eq_true c
    exact ⟨_, rfl, by omega, by omega, k _ _ _ _ loc1 q1 x1 rh1 snap_rng⟩⟩
theorem i_rng2 {tg : Expr} (hg : Gl X "range") (hm : X.mg "range" = none) (ha : PE X a (lfE bb X.K ta)) (hb : PE X b (lfE bb X.K tb)) (hs : starEach [a, b] X.env = [(false, eval a X.env), (false, eval b X.env)]) (hs2 : starEach [b] X.env = [(false, eval b X.env)]) :
    PI X tg (.Call (.Name "range" p) [a, b] [] pos) (lfI bb X.K fun σ h Q => ta σ h fun d h1 => tb σ h1 fun e h2 => (match d, e with
    | .int lo, .int hi => chk (decide (lo.natAbs < 2 ^ 62) && decide (hi.natAbs < 2 ^ 62)) (Q (.snap (range (hi - lo).toNat lo 0)) h2)
    | _, _ => False)) :=
  pi_imp (pi_range2 hg hm (pa_cons ha (pa_cons hb pa_nil hs2) (by rw [hs, hs2])) hs hs2) fun s H R ⟨loc, σ, h, Q', rs, rh, w, k⟩ => ⟨loc, σ, h, _, rs, rh, w, fun x h1 vx H1 loc1 q1 x1 rh1 r1 => ⟨loc1, σ, h1, _, rs.mono x1, rh1, q1, fun y h2 vy H2 loc2 q2 x2 rh2 r2 => by
    cases x <;> cases y <;> try exact q2.elim
    cases r1.int_
    cases r2.int_
    obtain ⟨c, q2⟩ := chk_e q2
    obtain ⟨c1, c2⟩ := Bool.and_eq_true_iff.mp c
    have c1' := of_decide_eq_true c1
    have c2' := of_decide_eq_true c2
    exact ⟨_, _, rfl, ⟨by omega, by omega, by omega, by omega⟩, k _ _ _ _ loc2 q2 (x1.trans x2) rh2 snap_rng⟩⟩⟩
/-! ### statements -/
variable {st : Stmt} {bl : List Stmt} {t u : TwS} {tg : Expr} {wg : TwG} {wi : TwI}
theorem t_expr (he : PE X e (lfE bb X.K te)) (hs : swapsWith e none pos.line X.env = pure false) : PS X (.Expr e pos) (lfS bb X.K fun R σ h => te σ h fun _ h1 => R.nx σ h1) :=
  ps_imp (ps_expr he hs) fun E s H ⟨loc, σ, h, R, rs, rh, w, k⟩ => ⟨loc, σ, h, _, rs, rh, w, fun x h1 vx H1 loc1 q1 x1 rh1 r1 => k.nx _ _ _ _ loc1 q1 x1 rh1 (rs.mono x1)⟩
theorem asg_ok {E : Ends} {s : L2.St} {H : Hp} (w : lfS bb X.K (fun R σ h => te σ h fun d h1 => wg d σ h1 R.nx) E s H) : tAsg (lfE bb X.K te) (lfG bb X.K wg) E s H := by
  obtain ⟨loc, σ, h, R, rs, rh, w, k⟩ := w
  exact ⟨loc, σ, h, _, rs, rh, w, fun x h1 vx H1 loc1 q1 x1 rh1 r1 => ⟨loc1, x, σ, h1, R.nx, r1, rs.mono x1, rh1, q1, k.nx.mono x1⟩⟩
theorem t_asg (he : PE X e (lfE bb X.K te)) (hg : PG X tg (lfG bb X.K wg)) (hs : swapsWithSole [tg] e pos.line X.env = pure false) (hw : swappedStores [tg] e X.env = pure none) (h1 : (assignEach [tg] X.env).map (·.2) = [assign tg X.env]) :
    PS X (.Assign [tg] e pos) (lfS bb X.K fun R σ h => te σ h fun d h1 => wg d σ h1 R.nx) := ps_imp (ps_asg he hg hs hw h1) fun E s H w => asg_ok w
theorem t_set {i : Nat} {y : Str} {py : Pos} (hN : X.N.Nodup) (hi : X.N[i]? = some y) (hx : Loc X.env.scope y) (he : PE X e (lfE bb X.K te)) (hs : swapsWith e (some (.Name y py)) pos.line X.env = pure false) (hf : X.fn y = true ∨ X.env.scope.names.lookup y = some .local) :
    PS X (.Assign [.Name y py] e pos) (lfS bb X.K fun R σ h => te σ h fun d h1 => R.nx (σ.set i (some d)) h1) :=
  ps_imp (ps_set hN hi hx he hs hf) fun E s H ⟨loc, σ, h, R, rs, rh, w, k⟩ => ⟨loc, σ, h, _, rs, rh, w, fun x h1 vx H1 loc1 q1 x1 rh1 r1 => k.nx _ _ _ _ loc1 q1 x1 rh1 ((rs.mono x1).set i r1)⟩
theorem t_par {i j : Nat} {x y : Str} {a b : Expr} {px py pt : Pos} {kt k2 pt2} (hc : X.calm = true) (hN : X.N.Nodup) (hi : X.N[i]? = some x) (hj : X.N[j]? = some y) (hij : i ≠ j)
    (hx : X.env.scope.names.lookup x = some .local) (hy : X.env.scope.names.lookup y = some .local) (ha : PA X [a, b] (lfA bb X.K as))
    (hw : swappedStores [.Tuple [.Name x px, .Name y py] kt pt] (.Tuple [a, b] k2 pt2) X.env = pure (some [x, y]))
    (hs : swapsWithSole [.Tuple [.Name x px, .Name y py] kt pt] (.Tuple [a, b] k2 pt2) pos.line X.env = pure false) :
    PS X (.Assign [.Tuple [.Name x px, .Name y py] kt pt] (.Tuple [a, b] k2 pt2) pos) (lfS bb X.K fun R σ h => as σ h fun ds h1 => chk (lenOk ds.length) (puts [i, j] ds σ fun σ1 => R.nx σ1 h1)) :=
  ps_imp (ps_par hc hN hi hj hij hx hy ha hw hs) fun E s H ⟨loc, σ, h, R, rs, rh, w, k⟩ => ⟨loc, σ, h, _, rs, rh, w, fun ds h1 vs H1 loc1 q1 x1 rh1 r1 => by
    obtain ⟨c, q1⟩ := chk_e q1
    obtain ⟨hl, σ', rs', q⟩ := puts_ok r1 (rs.mono x1) q1
    match vs, hl with
    | [v, w'], _ => exact ⟨v, w', rfl, k.nx _ _ _ _ loc1 q x1 rh1 rs'⟩⟩
theorem t_aug (op : BOp) {i : Nat} {y : Str} {py : Pos} (hN : X.N.Nodup) (hi : X.N[i]? = some y) (hx : Loc X.env.scope y) (he : PE X e (lfE bb X.K te)) (hf : X.fn y = true ∨ X.env.scope.names.lookup y = some .local) :
    PS X (.AugAssign (.Name y py) (bopOf op) e pos) (lfS bb X.K fun R σ h => look σ i fun d => te σ h fun y h1 => opAug op d y h1 fun z h2 => R.nx (σ.set i (some z)) h2) :=
  ps_imp (ps_aug hN hi hx he (op_aug op) hf) fun E s H ⟨loc, σ, h, R, rs, rh, w, k⟩ => by
    have w' : look σ i fun d => te σ h fun y h1 => opAug op d y h1 fun z h2 => R.nx (σ.set i (some z)) h2 := w
    unfold look at w'
    split at w'
    · rename_i d hd
      obtain ⟨v, hv, r⟩ := rs.2.1 i d hd
      exact ⟨v, hv, loc, σ, h, _, rs, rh, w', fun x h1 vx H1 loc1 q1 x1 rh1 r1 => ⟨loc1, h1, d, x, _, rh1, r.mono x1, r1, q1, fun z h2 vz H2 loc2 q2 x2 rh2 r2 => k.nx _ _ _ _ loc2 q2 (x1.trans x2) rh2 (((rs.mono x1).mono x2).set i r2)⟩⟩
    · exact w'.elim
theorem t_ret (he : PE X e (lfE bb X.K te)) : PS X (.Return (some e) pos) (lfS bb X.K fun R σ h => te σ h R.rt) :=
  ps_imp (ps_ret he) fun E s H ⟨loc, σ, h, R, rs, rh, w, k⟩ => ⟨loc, σ, h, _, rs, rh, w, k.rt⟩
theorem t_retN : PS X (.Return none pos) (lfS bb X.K fun R _ h => R.rt .non h) := ps_imp ps_retN fun E s H ⟨loc, σ, h, R, rs, rh, w, k⟩ => k.rt.here rh w rd_non
theorem t_pass : PS X (.Pass pos) (lfS bb X.K fun R σ h => R.nx σ h) := ps_imp ps_pass fun E s H ⟨loc, σ, h, R, rs, rh, w, k⟩ => k.nx _ _ _ _ loc w Xt.refl rh rs
theorem t_brk : PS X (.Break pos) (lfS bb X.K fun R σ h => R.bk σ h) := ps_imp ps_break fun E s H ⟨loc, σ, h, R, rs, rh, w, k⟩ => k.bk _ _ _ _ loc w Xt.refl rh rs
theorem t_cnt : PS X (.Continue pos) (lfS bb X.K fun R σ h => R.ct σ h) := ps_imp ps_continue fun E s H ⟨loc, σ, h, R, rs, rh, w, k⟩ => k.ct _ _ _ _ loc w Xt.refl rh rs
theorem t_ife {sa sb : List Stmt} (ht : PT X c (lfT bb X.K tt)) (ha : PSs X sa (lfS bb X.K t)) (hb : PSs X sb (lfS bb X.K u)) : PS X (.If c sa sb pos) (lfS bb X.K fun R σ h => tt σ h fun r h1 => br r (t R σ h1) (u R σ h1)) :=
  ps_imp (ps_if ht ha hb) fun E s H ⟨loc, σ, h, R, rs, rh, w, k⟩ => ⟨loc, σ, h, _, rs, rh, w, fun r h1 H1 loc1 q1 x1 rh1 => by
    rcases br_e q1 with ⟨rfl, q1'⟩ | ⟨rfl, q1'⟩
    · exact L2.iteT ⟨loc1, σ, h1, R, rs.mono x1, rh1, q1', k.mono x1⟩
    · exact L2.iteF ⟨loc1, σ, h1, R, rs.mono x1, rh1, q1', k.mono x1⟩⟩
theorem t_whl {sb : List Stmt} (hp : PassesOwn (model X.prog X.w) X.A X.env X.xe) (ht : PT X c (lfT bb X.K tt)) (hb : PSs X sb (lfS bb X.K u)) : PS X (.While c sb [] pos) (lfS bb X.K fun R σ h => loopW tt u R fuel σ h) :=
  ps_imp (ps_while hp ht hb) fun E s H w => while_ok w
theorem t_for {sb : List Stmt} (hp : PassesOwn (model X.prog X.w) X.A X.env X.xe) (hc : X.calm = true) (hi : PI X tg e (lfI bb X.K wi)) (hg : PG X tg (lfG bb X.K wg)) (hb : PSs X sb (lfS bb X.K u)) (hs : ∀ x, foldedSetIterable e X.env x = pure x) :
    PS X (.For tg e sb [] pos) (lfS bb X.K (wFor wi wg u)) := ps_imp (ps_for hp hc hi hg hb hs) fun E s H w => for_ok w
theorem b_nil : PSs X [] (lfS bb X.K fun R σ h => R.nx σ h) := pss_imp pss_nil fun E s H ⟨loc, σ, h, R, rs, rh, w, k⟩ => k.nx _ _ _ _ loc w Xt.refl rh rs
theorem b_cons (h1 : PS X st (lfS bb X.K t)) (h2 : PSs X bl (lfS bb X.K u)) : PSs X (st :: bl) (lfS bb X.K fun R σ h => t { R with nx := u R } σ h) :=
  pss_imp (pss_cons h1 h2) fun E s H ⟨loc, σ, h, R, rs, rh, w, k⟩ => ⟨loc, σ, h, _, rs, rh, w, ⟨fun σ' h' s' H' loc' q x rh' rs' => ⟨loc', σ', h', R, rs', rh', q, k.mono x⟩, k.rt, k.bk, k.ct⟩⟩
end
end Mi

set_option Elab.async false
set_option linter.all false
set_option maxRecDepth 100000
set_option maxHeartbeats 1000000
/-! Mi: errors: raise C(e, ..), try .. except C as x: return .. -/
namespace Mi
open PySem PySem.Spec PyProof.Rows L2
/-- the promise of an __init__ that stores its parameters -/
def spI (K : PySem.W.Frag) (fs : List Str) : Sp := fun vs H Q _ => ∃ (a C : Addr) (ws : List V), vs = .ref a :: ws ∧ ws.length = fs.length ∧ OexC K C ∧ H a = some (exo a C none) ∧ (∀ f ∈ fs, PySem.W.findIn K (.ref C) f = some none) ∧
  (∀ (dx : Addr) (H' : Hp), H dx = none → dx ≠ a → H' dx = some (exd dx (fs.zip ws).reverse) → H' a = some (exo a C (some dx)) → (∀ b, b ≠ dx → b ≠ a → H' b = H b) → Q .non H')
/-- what the written part says of an error's class x with the fields fs -/
structure XCls (P : Program) (w : World) (K : PySem.W.Frag) (mg : Str → Option Value) (base : Heap) (x : Str) (fs : List Str) (C : Addr) : Prop where
  gC : mg x = some (.ref C)
  oe : OexC K C
  xf : XfC K C
  no : ∀ f ∈ fs, PySem.W.findIn K (.ref C) f = some none
  nf : fs.length ≤ 90
  ini : ∃ (fI : Addr) (fd : FuncData), PySem.W.findIn K (.ref C) "__init__" = some (some (.ref fI)) ∧ PySem.W.typeIn K (.ref fI) = some (.type "function") ∧ Binds K fd ("self" :: fs) [] ∧ FnOk P w K mg base CX0 1 fI fd ("self" :: fs) (spI K fs)
section
variable {K : PySem.W.Frag} {loc loc' : List Addr} {H H' : Hp}
theorem RXs.mono (x : Xt K loc H loc' H') {kvs : List (Str × D)} {xd : List (Str × V)} (r : RXs K loc H kvs xd) : RXs K loc' H' kvs xd := fun n z e => by
  obtain ⟨v, e1, q⟩ := r n z e
  exact ⟨v, e1, q.mono x⟩
theorem RXs.cons {f : Str} {d : D} {v : V} {kvs : List (Str × D)} {xd : List (Str × V)} (q : RD K loc H d v) (r : RXs K loc H kvs xd) : RXs K loc H ((f, d) :: kvs) ((f, v) :: xd) := fun n z e => by
  have e' : (if strEq f n then some d else lkD kvs n) = some z := e
  rw [lookup_put]
  by_cases h : f = n
  · rw [if_pos (strEq_iff.mpr h)] at e'
    cases e'
    rw [if_pos h.symm]
    exact ⟨v, rfl, q⟩
  · rw [if_neg (fun y => h (strEq_iff.mp y))] at e'
    rw [if_neg (fun y => h y.symm)]
    exact r n z e'
theorem rxs_zip : ∀ (fs : List Str) {ds : List D} {vs : List V} {kvs : List (Str × D)} {xd : List (Str × V)}, RDs K loc H ds vs → RXs K loc H kvs xd → RXs K loc H ((fs.zip ds).reverse ++ kvs) ((fs.zip vs).reverse ++ xd)
  | [], ds, vs, kvs, xd, r, q => by simpa using q
  | f :: fs, [], vs, kvs, xd, r, q => by
    rw [RDs] at r
    subst r
    simpa using q
  | f :: fs, d :: ds, vs, kvs, xd, r, q => by
    rw [RDs] at r
    obtain ⟨v, t, rfl, r1, r2⟩ := r
    have := rxs_zip fs r2 (q.cons (f := f) r1)
    simpa using this
end
section
variable {bb : BB} {X : Cx} {e : Expr} {es : List Expr} {as : TwA} {pos p pos2 : Pos}
theorem t_rse {W : WX} {EX : Ex} {x : Str} {fs : List Str} {C : Addr} (hc : X.calm = true) (tk : Takes X W) (xw : XW X.K X.mg bb EX W) (T : XCls X.prog X.w X.K X.mg X.base x fs C) (hr : Room 2 X.A) (hg : Gl X x) (hdb : (x == ("__debug__" : Str)) = false)
    (hs : PA X (e :: es) (lfA bb X.K as)) (he : starEach (e :: es) X.env = (false, eval e X.env) :: starEach es X.env) (hpl : (backTo pos (starEach es X.env)).any (·.1) = false) :
    PS X (.Raise (some (.Call (.Name x p) (e :: es) [] pos)) none pos2) (lfS bb X.K fun R σ h => as σ h fun ds h1 => chk (decide (ds.length = fs.length)) (EX x (fs.zip ds).reverse h1)) := by
  obtain ⟨fI, fd, iC, tI, hb, F1⟩ := T.ini
  refine ps_imp (ps_raise hc tk (pmk_oex T.oe iC tI F1 hr hb .nil (fun _ _ _ _ _ _ _ z => z.elim) hg T.gC hs hdb he hpl)) fun D s H ⟨loc, σ, h, R, rs, rh, w, k⟩ => ?_
  refine ⟨loc, σ, h, _, rs, rh, w, fun ds h1 vs H1 loc1 q1 x1 rh1 r1 => ?_⟩
  obtain ⟨c, q⟩ := chk_e q1
  have hl : ds.length = fs.length := of_decide_eq_true c
  have hv : vs.length = fs.length := r1.length.trans hl
  have nf := T.nf
  refine ⟨by omega, fun a ha => ⟨a, C, vs, by rw [List.append_nil], hv, T.oe, upd_same, T.no, fun dx H' hd hda e1 e2 e3 => ?_⟩⟩
  have hd1 : H1 dx = none := by
    rw [upd_ne hda] at hd
    exact hd
  refine ⟨rfl, dx, (fs.zip vs).reverse, e2, e1, hd1, ?_⟩
  have eu : upd (del H' a) dx (.xd (fs.zip vs).reverse) = upd H1 dx (.xd (fs.zip vs).reverse) := by
    funext b
    by_cases hb : b = dx
    · rw [hb, upd_same, upd_same]
    · rw [upd_ne hb, upd_ne hb]
      by_cases hba : b = a
      · rw [hba, del_same, ha]
      · rw [del_ne hba, e3 b hb hba, upd_ne hba]
  rw [eu]
  have rx : RXs X.K loc1 H1 (fs.zip ds).reverse (fs.zip vs).reverse := by
    have := rxs_zip (K := X.K) (loc := loc1) (H := H1) fs (kvs := []) (xd := []) r1 (fun n z e => by cases e)
    simpa using this
  exact xw s (rs.1.trans rs.2.2.2) x _ h1 H1 loc1 dx C _ q T.gC (rs.2.2.1.trans x1) rh1 rx hd1
end
/-! ### the except suite -/
def haB (y : Option Str) (ns : List Str) : HA → Expr → Bool
  | .non, e => (match e with | .Constant .none _ _ => true | _ => false)
  | .bl b, e => (match e with | .Constant (.bool c) _ _ => decide (b = c) | _ => false)
  | .int i, e => (match e with | .Constant (.int j) _ _ => decide (i = j) | _ => false)
  | .str x, e => (match e with | .Constant (.str z) _ _ => decide (x = z) | _ => false)
  | .fld n, e => (match e with | .Attribute (.Name x _) n' _ => decide (n = n') && (decide (y = some x) && ns.any fun m => strEq n m) | _ => false)
def hasB (y : Option Str) (ns : List Str) : List HA → List Expr → Bool
  | [], es => (match es with | [] => true | _ => false)
  | a :: as, es => (match es with | e :: es => haB y ns a e && hasB y ns as es | _ => false)
def heB (y : Option Str) (ns : List Str) : HE → Expr → Bool
  | .one a, e => haB y ns a e
  | .tup as, e => (match e with | .Tuple es _ _ => hasB y ns as es | _ => false)
/-- what is known in the suite: the error at a, its class, its dict; slot i holds it -/
structure InH (K : PySem.W.Frag) (i : Option Nat) (ns : List Str) (a : Addr) (cls : Value) (d : Option Addr) (σ : L2.St) (H : Hp) (loc : List Addr) (kvs : List (Str × D)) : Prop where
  sl : ∀ j, i = some j → σ[j]? = some (some (.ref a))
  ex : ∃ (dd C : Addr) (xd : List (Str × V)), cls = .ref C ∧ XfC K C ∧ (∀ n ∈ ns, PySem.W.findIn K (.ref C) n = some none) ∧ d = some dd ∧ H dd = some (.xd xd) ∧ RXs K loc H kvs xd
section
variable {X : Cx} {a : Addr} {oe : Obj} {cls : Value} {d : Option Addr} {pn : List (Addr × Obj)} {i : Option Nat} {y : Option Str} {ns : List Str} {e : Expr} {es : List Expr} {pos : Pos}
/-- an atom: the heap stays -/
def lfHa (K : PySem.W.Frag) (i : Option Nat) (ns : List Str) (a : Addr) (cls : Value) (d : Option Addr) (A : HA) : TE := fun σ H Q => ∃ loc kvs z, InH K i ns a cls d σ H loc kvs ∧ A.val kvs = some z ∧ ∀ v, RD K loc H z v → Q v H
def lfHas (K : PySem.W.Frag) (i : Option Nat) (ns : List Str) (a : Addr) (cls : Value) (d : Option Addr) (As : List HA) : TA := fun σ H Q => ∃ loc kvs zs, InH K i ns a cls d σ H loc kvs ∧ HA.vals kvs As = some zs ∧ ∀ vs, RDs K loc H zs vs → Q vs H
def lfH (K : PySem.W.Frag) (i : Option Nat) (ns : List Str) (a : Addr) (cls : Value) (d : Option Addr) (E : HE) : TE := fun σ H Q => ∃ loc h kvs z, InH K i ns a cls d σ H loc kvs ∧ RH K loc H h ∧ E.val kvs = some z ∧ ∀ v H' loc', Xt K loc H loc' H' → RH K loc' H' h → RD K loc' H' z v → Q v H'
theorem ha_ok (hi : ∀ j x, i = some j → y = some x → X.N[j]? = some x ∧ Vis X.env.scope x ∧ (x == ("__debug__" : Str)) = false ∧ (x == ("__classdict__" : Str)) = false) (hiy : ∀ x, y = some x → ∃ j, i = some j) (hz : Zc cls d oe) (hf : ∃ vs, oe.data = .fields vs) :
    ∀ (A : HA) (e : Expr), haB y ns A e = true → PE (X.suite a ((a, oe) :: pn)) e (lfHa X.K i ns a cls d A)
  | .non, e, h => by
    cases e <;> first | exact Bool.noConfusion (show false = true from h) | skip
    rename_i v _ _
    cases v <;> first | exact Bool.noConfusion (show false = true from h) | exact pe_imp pe_non fun s H Q ⟨loc, kvs, z, hh, ez, w⟩ => by cases ez; exact w _ rd_non
  | .bl b, e, h => by
    cases e <;> first | exact Bool.noConfusion (show false = true from h) | skip
    rename_i v _ _
    cases v <;> first | exact Bool.noConfusion (show false = true from h) | skip
    obtain rfl := of_decide_eq_true h
    exact pe_imp pe_bl fun s H Q ⟨loc, kvs, z, hh, ez, w⟩ => by cases ez; exact w _ rd_bl
  | .int b, e, h => by
    cases e <;> first | exact Bool.noConfusion (show false = true from h) | skip
    rename_i v _ _
    cases v <;> first | exact Bool.noConfusion (show false = true from h) | skip
    obtain rfl := of_decide_eq_true h
    exact pe_imp pe_int fun s H Q ⟨loc, kvs, z, hh, ez, w⟩ => by cases ez; exact w _ rd_int
  | .str b, e, h => by
    cases e <;> first | exact Bool.noConfusion (show false = true from h) | skip
    rename_i v _ _
    cases v <;> first | exact Bool.noConfusion (show false = true from h) | skip
    obtain rfl := of_decide_eq_true h
    exact pe_imp pe_str fun s H Q ⟨loc, kvs, z, hh, ez, w⟩ => by cases ez; exact w _ rd_str
  | .fld n, e, h => by
    cases e <;> first | exact Bool.noConfusion (show false = true from h) | skip
    rename_i eo n' ap
    cases eo <;> first | exact Bool.noConfusion (show false = true from h) | skip
    rename_i x xp
    obtain ⟨h1, h2⟩ := Bool.and_eq_true_iff.mp (show (decide (n = n') && (decide (y = some x) && ns.any fun m => strEq n m)) = true from h)
    obtain ⟨h2, h3⟩ := Bool.and_eq_true_iff.mp h2
    obtain rfl := of_decide_eq_true h1
    have hy := of_decide_eq_true h2
    obtain ⟨m, hm, em⟩ := List.any_eq_true.mp h3
    obtain rfl := strEq_iff.mp em
    obtain ⟨j, hj⟩ := hiy x hy
    obtain ⟨q1, q2, q3, q4⟩ := hi j x hj hy
    refine ⟨fun pins s σ H Q I ⟨loc, kvs, z, hh, ez, w⟩ => ?_⟩
    obtain ⟨dd, C, xd, ec, T, no, ed, eh, rx⟩ := hh.ex
    obtain ⟨v, ev, rv⟩ := rx n z ez
    exact (pe_xf T (no n hm) hz hf (pe_var (X := X.suite a ((a, oe) :: pn)) q1 q2 q3 q4)).run pins s σ H Q I ⟨_, hh.sl j hj, rfl, ec, dd, xd, v, ed, eh, ev, w v rv⟩
def nst : Expr → Bool
  | .Starred _ _ => false
  | _ => true
theorem star_of {e : Expr} {env : Env} (h : nst e = true) : starEach (e :: es) env = (false, eval e env) :: starEach es env := by
  cases e <;> first | exact Bool.noConfusion (show false = true from h) | rfl
theorem haB_star {A : HA} (h : haB y ns A e = true) : nst e = true := by
  cases A <;> (cases e <;> first | rfl | exact Bool.noConfusion (show false = true from h))
theorem has_ok (hi : ∀ j x, i = some j → y = some x → X.N[j]? = some x ∧ Vis X.env.scope x ∧ (x == ("__debug__" : Str)) = false ∧ (x == ("__classdict__" : Str)) = false) (hiy : ∀ x, y = some x → ∃ j, i = some j) (hz : Zc cls d oe) (hf : ∃ vs, oe.data = .fields vs) :
    ∀ (As : List HA) (es : List Expr), hasB y ns As es = true → PA (X.suite a ((a, oe) :: pn)) es (lfHas X.K i ns a cls d As)
  | [], [], _ => pa_imp pa_nil fun s H Q ⟨loc, kvs, zs, hh, ez, w⟩ => by cases ez; exact w _ RDs.nil
  | [], _ :: _, h => Bool.noConfusion (show false = true from h)
  | _ :: _, [], h => Bool.noConfusion (show false = true from h)
  | A :: As, e :: es, h => by
    obtain ⟨h1, h2⟩ := Bool.and_eq_true_iff.mp (show (haB y ns A e && hasB y ns As es) = true from h)
    refine pa_imp (pa_cons (ha_ok hi hiy hz hf A e h1) (has_ok hi hiy hz hf As es h2) (star_of (haB_star h1))) fun s H Q ⟨loc, kvs, zs, hh, ez, w⟩ => ?_
    have ez' : (match A.val kvs with
      | some d => (match HA.vals kvs As with
        | some ds => some (d :: ds)
        | none => none)
      | none => none) = some zs := ez
    cases e1 : A.val kvs with
    | none => rw [e1] at ez'; cases ez'
    | some z =>
      cases e2 : HA.vals kvs As with
      | none => rw [e1, e2] at ez'; cases ez'
      | some zs2 =>
        rw [e1, e2] at ez'
        cases ez'
        exact ⟨loc, kvs, z, hh, e1, fun v rv => ⟨loc, kvs, zs2, hh, e2, fun vs rvs => w _ (RDs.cons rv rvs)⟩⟩
theorem h_ok (hi : ∀ j x, i = some j → y = some x → X.N[j]? = some x ∧ Vis X.env.scope x ∧ (x == ("__debug__" : Str)) = false ∧ (x == ("__classdict__" : Str)) = false) (hiy : ∀ x, y = some x → ∃ j, i = some j) (hz : Zc cls d oe) (hf : ∃ vs, oe.data = .fields vs) (E : HE) (e : Expr) (h : heB y ns E e = true) :
    PE (X.suite a ((a, oe) :: pn)) e (lfH X.K i ns a cls d E) := by
  cases E with
  | one A => exact pe_imp (ha_ok hi hiy hz hf A e h) fun s H Q ⟨loc, hs, kvs, z, hh, rh, ez, w⟩ => ⟨loc, kvs, z, hh, ez, fun v rv => w v H loc Xt.refl rh rv⟩
  | tup As =>
    cases e <;> first | exact Bool.noConfusion (show false = true from h) | skip
    refine pe_imp (pe_tupF (has_ok hi hiy hz hf As _ h)) fun s H Q ⟨loc, hs, kvs, z, hh, rh, ez, w⟩ => ?_
    have ez' : (match HA.vals kvs As with
      | some ds => if lenOk ds.length then some (D.tup ds) else none
      | none => none) = some z := ez
    cases e2 : HA.vals kvs As with
    | none => rw [e2] at ez'; cases ez'
    | some zs =>
      rw [e2] at ez'
      have ez2 : (if lenOk zs.length then some (D.tup zs) else none) = some z := ez'
      split at ez2
      · rename_i hl
        cases ez2
        refine ⟨loc, kvs, zs, hh, e2, fun vs rvs => ⟨by rw [rvs.length]; exact lenOk_i hl, ?_⟩⟩
        exact Kx.tup (K := X.K) (Q' := fun z' h' => z' = .tup zs ∧ h' = hs) (fun z' h' v H' loc' q x rh' rd => by
          obtain ⟨rfl, rfl⟩ := q
          exact w v H' loc' x rh' rd) rh ⟨rfl, rfl⟩ rvs
      · cases ez2
end
section
variable {bb : BB} {X : Cx} {body : List Stmt} {t : Ex → TwS} {e : Expr} {y : Str} {c : Value} {ys zs : List Str} {E : HE} {ns : List Str} {pos pos' rp np : Pos} {W : WX} {EX : Ex}
/-- what the tables say of the except clause's class c -/
structure HdOk (X : Cx) (c : Value) (ys zs ns : List Str) : Prop where
  yes : ∀ x ∈ ys, ∃ C : Addr, X.mg x = some (.ref C) ∧ PySem.W.exmOne X.K (.ref C) c = some true ∧ XfC X.K C ∧ ∀ n ∈ ns, PySem.W.findIn X.K (.ref C) n = some none
  no : ∀ x ∈ zs, ∃ C : Addr, X.mg x = some (.ref C) ∧ PySem.W.exmOne X.K (.ref C) c = some false
theorem any_mem {x : Str} {ys : List Str} (h : (ys.any fun y => strEq x y) = true) : x ∈ ys := by
  obtain ⟨y, hy, e⟩ := List.any_eq_true.mp h
  rw [strEq_iff.mp e]
  exact hy
def tHan (K : PySem.W.Frag) (i : Option Nat) (ns : List Str) (E : HE) (a : Addr) (cls : Value) (d : Option Addr) : TS := tSeq (tRet (lfH K i ns a cls d E)) tNext
/-- what the body's errors find -/
theorem xw_of {i : Option Nat} {DD : Ends} {s : L2.St} {H : Hp} {loc : List Addr} {σ : Sg} {R : Es} (hd : HdOk X c ys zs ns) (xw : XW X.K X.mg bb EX W) (rs : RS bb X.K loc H σ s) (k : KxR bb X.K loc H R DD) (hi : ∀ j, i = some j → j < bb.n)
    {x : Str} {kvs : List (Str × D)} {h' : Hh} {H1 : Hp} {loc' : List Addr} {d C : Addr} {xd : List (Str × V)} {s2 : L2.St} (hs2 : s2.length = bb.n)
    (q : exT ys zs E R EX x kvs h') (gC : X.mg x = some (.ref C)) (xt : Xt X.K loc H loc' H1) (rh : RH X.K loc' H1 h') (rx : RXs X.K loc' H1 kvs xd) (hd1 : H1 d = none) :
    ∃ b, PySem.W.exmOne X.K (.ref C) c = some b ∧ (b = true → ∀ (a : Addr) (s3 : L2.St) (D3 : Ends), D3.rt = DD.rt → (∀ j, i = some j → s3[j]? = some (some (.ref a))) → tHan X.K i ns E a (.ref C) (some d) D3 s3 (upd H1 d (.xd xd))) ∧ (b = false → W (.ref C) (some d) s2 (upd H1 d (.xd xd))) := by
  unfold exT at q
  have x0 : Xt X.K loc' H1 loc' (upd H1 d (.xd xd)) := Xt.hid (.inl hd1)
  split at q
  · rename_i hy
    obtain ⟨C', g', e', T, no⟩ := hd.yes x (any_mem hy)
    rw [gC] at g'
    cases g'
    refine ⟨true, e', fun _ a s3 D3 e3 hs3 => ?_, fun z => (by cases z)⟩
    cases ev : E.val kvs with
    | none => rw [ev] at q; exact q.elim
    | some z =>
      rw [ev] at q
      refine ⟨loc', h', kvs, z, ⟨hs3, d, C, xd, rfl, T, no, rfl, upd_same, rx.mono x0⟩, rh.hid hd1, ev, fun v H' loc2 x2 rh2 rd => ?_⟩
      show D3.rt v H'
      rw [e3]
      exact k.rt z h' v H' loc2 q ((xt.trans x0).trans x2) rh2 rd
  · split at q
    · rename_i hy hz
      obtain ⟨C', g', e'⟩ := hd.no x (any_mem hz)
      rw [gC] at g'
      cases g'
      exact ⟨false, e', fun z => (by cases z), fun _ => xw s2 hs2 x kvs h' H1 loc' d C xd q gC (rs.2.2.1.trans xt) rh rx hd1⟩
    · exact q.elim
theorem KxR.rebase {DD : Ends} {s : L2.St} {H : Hp} {loc : List Addr} {σ : Sg} {R : Es} (rs : RS bb X.K loc H σ s) (k : KxR bb X.K loc H R DD) : KxR ⟨bb.n, loc, H⟩ X.K loc H R DD :=
  ⟨fun σ' h' s' H' loc' q x rh r => k.nx σ' h' s' H' loc' q x rh ⟨r.1, r.2.1, rs.2.2.1.trans r.2.2.1, r.2.2.2⟩, k.rt,
   fun σ' h' s' H' loc' q x rh r => k.bk σ' h' s' H' loc' q x rh ⟨r.1, r.2.1, rs.2.2.1.trans r.2.2.1, r.2.2.2⟩, fun σ' h' s' H' loc' q x rh r => k.ct σ' h' s' H' loc' q x rh ⟨r.1, r.2.1, rs.2.2.1.trans r.2.2.1, r.2.2.2⟩⟩
theorem t_tr0 (hs : X.stack = X.env :: X.outer) (hf : X.env.frame = some X.env.locals) (hc : Names X y c) (tk : Takes X W) (xw : XW X.K X.mg bb EX W) (hd : HdOk X c ys zs ns) (he : heB none ns E e = true)
    (hb : ∀ (b1 : BB) (E1 : Ex) (W : WX) (pn : List (Addr × Obj)) (xe : Value → Shared → Prop), b1.n = bb.n → Takes (X.tr pn xe) W → XW X.K X.mg b1 E1 W → PassesOwn (model X.prog X.w) X.A X.env xe → PSs (X.tr pn xe) body (lfS b1 X.K (t E1))) :
    PS X (.Try body [.ExceptHandler (some (.Name y np)) none [.Return (some e) rp] pos'] [] [] pos) (lfS bb X.K fun R σ h => t (exT ys zs E R EX) R σ h) := by
  refine ps_imp (ps_try_only (ts := tHan X.K none ns E) (tb := fun W D σ H => ∃ b1 E1, b1.n = bb.n ∧ XW X.K X.mg b1 E1 W ∧ lfS b1 X.K (t E1) D σ H) hs hf hc tk (fun W pn xe tk po => ⟨fun pins s σ H D I ⟨b1, E1, en, xw, hh⟩ => (hb b1 E1 W pn xe en tk xw po).run pins s σ H D I hh⟩) fun a oe cls d pn hz hfl => ?_) fun D s H ⟨loc, σ, h, R, rs, rh, w, k⟩ => ?_
  · exact pss_cons (ps_ret (h_ok (i := none) (fun _ _ z => by cases z) (fun _ z => by cases z) hz hfl E e he)) pss_nil
  · refine ⟨⟨bb.n, loc, H⟩, exT ys zs E R EX, rfl, fun s2 hs2 x kvs h' H1 loc' d C xd q gC xt rh1 rx hd1 => ?_, loc, σ, h, R, ⟨rs.1, rs.2.1, Xt.refl, rs.2.2.2⟩, rh, w, KxR.rebase rs k⟩
    obtain ⟨b, e1, e2, e3⟩ := xw_of (i := none) hd xw rs k (fun _ z => by cases z) (s2 := s2) hs2 q gC xt rh1 rx hd1
    exact ⟨b, e1, fun z a _ => e2 z a _ _ rfl fun _ z => (by cases z), e3⟩
theorem t_tr1 {j : Nat} {n : Str} (hs : X.stack = X.env :: X.outer) (hf : X.env.frame = some X.env.locals) (hN : X.N.Nodup) (hi : X.N[j]? = some n) (hln : X.env.kindOf n = some .local) (hvi : Vis X.env.scope n) (n1 : (n == ("__debug__" : Str)) = false) (n2 : (n == ("__classdict__" : Str)) = false) (hj : j < bb.n)
    (hc : Names X y c) (tk : Takes X W) (xw : XW X.K X.mg bb EX W) (hd : HdOk X c ys zs ns) (he : heB (some n) ns E e = true)
    (hb : ∀ (b1 : BB) (E1 : Ex) (W : WX) (pn : List (Addr × Obj)) (xe : Value → Shared → Prop), b1.n = bb.n → Takes (X.tr pn xe) W → XW X.K X.mg b1 E1 W → PassesOwn (model X.prog X.w) X.A X.env xe → PSs (X.tr pn xe) body (lfS b1 X.K (t E1))) :
    PS X (.Try body [.ExceptHandler (some (.Name y np)) (some n) [.Return (some e) rp] pos'] [] [] pos) (lfS bb X.K fun R σ h => t (exT ys zs E R EX) R σ h) := by
  refine ps_imp (ps_try_as (i := j) (ts := tHan X.K (some j) ns E) (tb := fun W D σ H => ∃ b1 E1, b1.n = bb.n ∧ XW X.K X.mg b1 E1 W ∧ lfS b1 X.K (t E1) D σ H) hs hf hN hi hln hc tk (fun W pn xe tk po => ⟨fun pins s σ H D I ⟨b1, E1, en, xw, hh⟩ => (hb b1 E1 W pn xe en tk xw po).run pins s σ H D I hh⟩) fun a oe cls d pn hz hfl => ?_) fun D s H ⟨loc, σ, h, R, rs, rh, w, k⟩ => ?_
  · exact pss_cons (ps_ret (h_ok (i := some j) (y := some n) (fun j' x e1 e2 => by cases e1; cases e2; exact ⟨hi, hvi, n1, n2⟩) (fun _ _ => ⟨j, rfl⟩) hz hfl E e he)) pss_nil
  · refine ⟨⟨bb.n, loc, H⟩, exT ys zs E R EX, rfl, fun s2 hs2 x kvs h' H1 loc' d C xd q gC xt rh1 rx hd1 => ?_, loc, σ, h, R, ⟨rs.1, rs.2.1, Xt.refl, rs.2.2.2⟩, rh, w, KxR.rebase rs k⟩
    obtain ⟨b, e1, e2, e3⟩ := xw_of (i := some j) hd xw rs k (fun j' z => by cases z; exact hj) (s2 := s2) hs2 q gC xt rh1 rx hd1
    exact ⟨b, e1, fun z a _ => e2 z a _ _ rfl fun j' z => (by cases z; exact List.getElem?_set_self (by rw [hs2]; exact hj)), e3⟩
end
end Mi

set_option Elab.async false
set_option linter.all false
set_option maxRecDepth 100000
set_option maxHeartbeats 1000000
/-! Mi: a look that holds a text of the program beside the words of Mi, and what follows where they agree. -/
namespace Mi
open PySem PySem.Spec PyProof.Rows L2

/-- the program's names: defs, error classes with their fields, what an except clause of a class takes -/
structure Fns where
  ds : List (Str × List Str)
  xs : List (Str × List Str) := []
  hs : List (Str × Str × Bool) := []
/-! ### the look -/
def isK (sc : Scope) (x : Str) (k : NameKind) : Bool := decide (sc.names.lookup x = some k)
def visB (sc : Scope) (x : Str) : Bool := isK sc x .local || (isK sc x .cell || isK sc x .free)
def glB (sc : Scope) (x : Str) : Bool := isK sc x .globalImplicit
def locB (d : Bool) (sc : Scope) (x : Str) : Bool := isK sc x .local || (d && isK sc x .cell)
def nmB (x : Str) : Bool := !(x == ("__debug__" : Str)) && !(x == ("__classdict__" : Str))
def noStar : Expr → Bool
  | .Starred _ _ => false
  | _ => true
def noSet : Expr → Bool
  | .Set _ _ _ => false
  | _ => true
def noSlice : Expr → Bool
  | .Slice _ _ _ _ => false
  | _ => true
def noComp : Expr → Bool
  | .ListComp _ _ _ _ => false
  | .SetComp _ _ _ _ => false
  | .DictComp _ _ _ _ _ => false
  | _ => true
/-- an expression of the plain kinds -/
def plainE (e : Expr) : Bool := noStar e && (noSet e && noSlice e)
def tyName : Tyn → Str
  | .int => "int" | .bool => "bool" | .str => "str" | .tuple => "tuple" | .list => "list"
def relB (scope sc : Scope) : Scope := relS scope sc
def baseB : Expr → Bool
  | .Call _ _ _ _ => false
  | _ => true
def chkNs (N : List Str) (sc : Scope) (d : Bool) : List Nat → List Expr → Bool
  | [], es => (match es with | [] => true | _ => false)
  | i :: is, es => (match es with | .Name x _ :: ts => decide (N[i]? = some x) && (locB d sc x && chkNs N sc d is ts) | _ => false)
section
variable (fn : Fns) (gn : List Str)
mutual
def chkE (N : List Str) (sc : Scope) (d : Bool) : ME → Expr → Bool
  | .non, e => (match e with | .Constant .none _ _ => true | _ => false)
  | .bl b, e => (match e with | .Constant (.bool c) _ _ => decide (b = c) | _ => false)
  | .int i, e => (match e with | .Constant (.int j) _ _ => decide (i = j) | _ => false)
  | .str x, e => (match e with | .Constant (.str y) _ _ => decide (x = y) | _ => false)
  | .var i, e => (match e with | .Name x _ => decide (N[i]? = some x) && (visB sc x && nmB x) | _ => false)
  | .gl i, e => (match e with | .Name x _ => decide (gn[i]? = some x) && (glB sc x && nmB x) | _ => false)
  | .bin op a b, e => (match e with | .BinOp ea o eb _ => decide (o = bopOf op) && (chkE N sc d a ea && chkE N sc d b eb) | _ => false)
  | .neg a, e => (match e with | .UnaryOp .USub ea _ => chkE N sc d a ea | _ => false)
  | .not a, e => (match e with | .UnaryOp .Not ea _ => chkE N sc d a ea | _ => false)
  | .cmp op a b, e => (match e with | .Compare ea [o] [eb] _ => decide (o = copOf op) && (chkE N sc d a ea && chkE N sc d b eb) | _ => false)
  | .chain op op' a b c, e => (match e with | .Compare ea [o, o'] [eb, ec] _ => decide (o = copOf op) && (decide (o' = copOf op') && (chkE N sc d a ea && (chkE N sc d b eb && chkE N sc d c ec))) | _ => false)
  | .and a b, e => (match e with
    | .BoolOp .And [ea, eb] _ => chkE N sc d a ea && chkE N sc d b eb
    | .BoolOp .And (ea :: eb :: ec :: r) pos => chkE N sc d a ea && chkE N sc d b (.BoolOp .And (eb :: ec :: r) pos)
    | _ => false)
  | .or a b, e => (match e with
    | .BoolOp .Or [ea, eb] _ => chkE N sc d a ea && chkE N sc d b eb
    | .BoolOp .Or (ea :: eb :: ec :: r) pos => chkE N sc d a ea && chkE N sc d b (.BoolOp .Or (eb :: ec :: r) pos)
    | _ => false)
  | .ife t a b, e => (match e with | .IfExp et ea eb _ => chkT N sc d t et && (chkE N sc d a ea && chkE N sc d b eb) | _ => false)
  | .call f es, e => (match e with | .Call (.Name x _) es' [] _ => decide ((fn.ds[f]?).map (·.1) = some x) && (glB sc x && (nmB x && chkEs N sc d es es')) | _ => false)
  | .blt f es, e => (match e with | .Call (.Name x _) (e1 :: es') [] _ => decide (x = bltStr f) && (glB sc x && chkEs N sc d es (e1 :: es')) | _ => false)
  | .isi a ts, e => (match e with
    | .Call (.Name x _) [ea, .Name ty _] [] _ => (match ts with
      | [u] => decide (x = ("isinstance" : Str)) && (glB sc x && (decide (ty = tyName u) && (glB sc ty && chkE N sc d a ea)))
      | _ => false)
    | _ => false)
  | .meth m o es, e => (match e with
    | .Call (.Attribute eo nm apos) es' [] cpos => decide (nm = mthStr m) && ((match m with | .index => (match es' with | _ :: _ => true | _ => false) | _ => true) && (decide (es'.length < 20) && (baseB eo && (decide (apos.endLine = cpos.line) && (chkE N sc d o eo && chkEs N sc d es es')))))
    | _ => false)
  | .ix a i, e => (match e with | .Subscript ea ei _ => chkE N sc d a ea && chkE N sc d i ei | _ => false)
  | .sl a lo hi, e => (match e with | .Subscript ea (.Slice l u none _) _ => chkE N sc d a ea && (chkEo N sc d lo l && chkEo N sc d hi u) | _ => false)
  | .callk f es, e => (match e with | .Call (.Name x _) [] (k1 :: kws) _ => (match fn.ds[f]? with | some y => decide (y.1 = x) && decide ((k1 :: kws).map (·.arg) = y.2.map some) | none => false) && (glB sc x && (nmB x && chkEs N sc d es ((k1 :: kws).map (·.value)))) | _ => false)
  | .dnew, e => (match e with | .Dict [] [] _ => true | _ => false)
  | .dlit k x, e => (match e with | .Dict [some ek] [ex] _ => chkE N sc d k ek && chkE N sc d x ex | _ => false)
  | .dget o k x, e => (match e with
    | .Call (.Attribute eo nm apos) [ek, ex] [] cpos => decide (nm = ("get" : Str)) && (baseB eo && (decide (apos.endLine = cpos.line) && (chkE N sc d o eo && (chkE N sc d k ek && chkE N sc d x ex))))
    | _ => false)
  | .lset a, e => (match e with | .Call (.Name x _) [.Call (.Name y _) [ea] [] _] [] _ => decide (x = ("len" : Str)) && (decide (y = ("set" : Str)) && (glB sc x && (glB sc y && chkE N sc d a ea))) | _ => false)
  | .rev a, e => (match e with | .Subscript ea (.Slice none none (some (.UnaryOp .USub (.Constant (.int j) _ _) _)) _) _ => decide (j = 1) && chkE N sc d a ea | _ => false)
  | .callv i f g es, e => (match e with | .Call (.Name x _) (e1 :: es') [] _ => decide (N[i]? = some x) && ((visB sc x && nmB x) && ((match fn.ds[f]?, gn[g]? with | some y, some z => decide (y.1 = z) | _, _ => false) && chkEs N sc d es (e1 :: es'))) | _ => false)
  | .tup es, e => (match e with | .Tuple es' _ _ => chkEs N sc d es es' | _ => false)
  | .lst es, e => (match e with | .List es' _ => chkEs N sc d es es' | _ => false)
  | .lc elt t it c, e => (match e with
    | .ListComp el [⟨tg, iter, ifs, asy⟩] scope _ => decide (asy = 0) && (chkI N sc d it iter && (blkC N sc scope ((slotsOf t).map fun i => (N.getD i Str.empty, i)) && (chkGc N (relS scope sc) t tg && (chkC N (relS scope sc) false c ifs && chkE N (relS scope sc) false elt el))))
    | _ => false)
def chkT (N : List Str) (sc : Scope) (d : Bool) : ME → Expr → Bool
  | .not a, e => (match e with | .UnaryOp .Not ea _ => chkT N sc d a ea | _ => false)
  | .and a b, e => (match e with
    | .BoolOp .And [ea, eb] _ => chkT N sc d a ea && chkT N sc d b eb
    | .BoolOp .And (ea :: eb :: ec :: r) pos => chkT N sc d a ea && chkT N sc d b (.BoolOp .And (eb :: ec :: r) pos)
    | _ => false)
  | .or a b, e => (match e with
    | .BoolOp .Or [ea, eb] _ => chkT N sc d a ea && chkT N sc d b eb
    | .BoolOp .Or (ea :: eb :: ec :: r) pos => chkT N sc d a ea && chkT N sc d b (.BoolOp .Or (eb :: ec :: r) pos)
    | _ => false)
  | .cmp op a b, e => (match e with | .Compare ea [o] [eb] _ => decide (o = copOf op) && (chkE N sc d a ea && chkE N sc d b eb) | _ => false)
  | .chain op op' a b c, e => (match e with | .Compare ea [o, o'] [eb, ec] _ => decide (o = copOf op) && (decide (o' = copOf op') && (chkE N sc d a ea && (chkE N sc d b eb && chkE N sc d c ec))) | _ => false)
  | .bl b, e => (match e with | .Constant (.bool c) _ _ => decide (b = c) | _ => false)
  | .var i, e => (match e with | .Name x _ => decide (N[i]? = some x) && (visB sc x && nmB x) | _ => false)
  | .call f es, e => (match e with | .Call (.Name x _) es' [] _ => decide ((fn.ds[f]?).map (·.1) = some x) && (glB sc x && (nmB x && chkEs N sc d es es')) | _ => false)
  | .callk f es, e => (match e with | .Call (.Name x _) [] (k1 :: kws) _ => (match fn.ds[f]? with | some y => decide (y.1 = x) && decide ((k1 :: kws).map (·.arg) = y.2.map some) | none => false) && (glB sc x && (nmB x && chkEs N sc d es ((k1 :: kws).map (·.value)))) | _ => false)
  | .isi a ts, e => (match e with
    | .Call (.Name x _) [ea, .Name ty _] [] _ => (match ts with
      | [u] => decide (x = ("isinstance" : Str)) && (glB sc x && (decide (ty = tyName u) && (glB sc ty && chkE N sc d a ea)))
      | _ => false)
    | _ => false)
  | .ix a i, e => (match e with | .Subscript ea ei _ => chkE N sc d a ea && chkE N sc d i ei | _ => false)
  | _, _ => false
def chkEs (N : List Str) (sc : Scope) (d : Bool) : MEs → List Expr → Bool
  | .nil, es => (match es with | [] => true | _ => false)
  | .cons m ms, es => (match es with | e :: es => chkE N sc d m e && chkEs N sc d ms es | _ => false)
def chkEo (N : List Str) (sc : Scope) (d : Bool) : MEo → Option Expr → Bool
  | .none, o => (match o with | none => true | _ => false)
  | .some m, o => (match o with | some e => chkE N sc d m e | _ => false)
def chkC (N : List Str) (sc : Scope) (d : Bool) : MEo → List Expr → Bool
  | .none, es => (match es with | [] => true | _ => false)
  | .some m, es => (match es with | [e] => chkT N sc d m e | _ => false)
def chkG (N : List Str) (sc : Scope) (d : Bool) : MT → Expr → Bool
  | .name i, e => (match e with | .Name x _ => decide (N[i]? = some x) && locB d sc x | _ => false)
  | .tup is, e => (match e with | .Tuple ts _ _ => chkNs N sc d is ts | _ => false)
  | .sub a i, e => (match e with | .Subscript ea ei _ => chkE N sc d a ea && chkE N sc d i ei | _ => false)
/-- a comprehension's target -/
def chkGc (N : List Str) (sc : Scope) : MT → Expr → Bool
  | .name i, e => (match e with | .Name x _ => decide (N[i]? = some x) && locB false sc x | _ => false)
  | .tup is, e => (match e with | .Tuple ts _ _ => chkNs N sc false is ts | _ => false)
  | .sub _ _, _ => false
def chkI (N : List Str) (sc : Scope) (d : Bool) : MI → Expr → Bool
  | .seq m, e => chkE N sc d m e
  | .rng1 a, e => (match e with | .Call (.Name x _) [ea] [] _ => decide (x = ("range" : Str)) && (glB sc x && chkE N sc d a ea) | _ => false)
  | .rng2 a b, e => (match e with | .Call (.Name x _) [ea, eb] [] _ => decide (x = ("range" : Str)) && (glB sc x && (chkE N sc d a ea && chkE N sc d b eb)) | _ => false)
end
end
/-- may the target be stored so? -/
def asgB (sc : Scope) (tg e : Expr) : Bool := match tg with
  | .Name y py => (match e with
    | .ListComp _ _ scope pos => isK sc y .cell || (isK sc y .local && ((py.line == pos.line) && !(scope.names.any fun (n, k) => n == y && (k == .local || k == .cell))))
    | _ => noComp e)
  | .Tuple ts _ _ => (match e with
    | .Tuple vs _ _ => (match ts, vs with
      | [.Name x px, .Name y py], [_, _] => isK sc x .local && (isK sc y .local && ((py.line == px.line) && (!(x == y) && (!(vs.all (foldedForSure 8)) && !(vs.all (constantsAlone 8))))))
      | _, _ => false)
    | _ => true)
  | .Subscript _ _ _ => true
  | _ => false
section
variable (fn : Fns) (gn : List Str)
/-- the fields that all the classes have -/
def nsOf (ys : List Str) : List Str := match ys with
  | [] => []
  | x :: _ => ((fn.xs.lookup x).getD []).filter fun n => ys.all fun y => ((fn.xs.lookup y).getD []).any fun m => strEq n m
def slB (N : List Str) (sc : Scope) (i : Option Nat) (nm : Option Str) : Bool := match i with
  | none => nm.isNone
  | some j => (match nm with | some n => decide (N[j]? = some n) && (isK sc n .local && nmB n) | none => false)
mutual
def chkS (N : List Str) (sc : Scope) : MS → Stmt → Bool
  | .expr m, s => (match s with | .Expr e _ => noComp e && chkE fn gn N sc true m e | _ => false)
  | .asg t m, s => (match s with | .Assign [tg] e _ => asgB sc tg e && (chkG fn gn N sc true t tg && chkE fn gn N sc true m e) | _ => false)
  | .aug i op m, s => (match s with | .AugAssign (.Name x _) o e _ => decide (o = bopOf op) && (decide (N[i]? = some x) && (locB true sc x && chkE fn gn N sc true m e)) | _ => false)
  | .ret m, s => (match s with | .Return (some e) _ => chkE fn gn N sc true m e | _ => false)
  | .retN, s => (match s with | .Return none _ => true | _ => false)
  | .pass, s => (match s with | .Pass _ => true | _ => false)
  | .brk, s => (match s with | .Break _ => true | _ => false)
  | .cnt, s => (match s with | .Continue _ => true | _ => false)
  | .ife t a b, s => (match s with | .If e sa sb _ => chkT fn gn N sc true t e && (chkB N sc a sa && chkB N sc b sb) | _ => false)
  | .whl t b, s => (match s with | .While e sb [] _ => chkT fn gn N sc true t e && chkB N sc b sb | _ => false)
  | .forr t it b, s => (match s with | .For tg e sb [] _ => noSet e && (chkG fn gn N sc true t tg && (chkI fn gn N sc true it e && chkB N sc b sb)) | _ => false)
  | .rse x fs es, s => (match s with | .Raise (some (.Call (.Name x' _) (e1 :: es') [] _)) none _ => decide (x = x') && (decide (fn.xs.lookup x = some fs) && (glB sc x && (nmB x && chkEs fn gn N sc true es (e1 :: es')))) | _ => false)
  | .tr b y ys zs i he, s => (match s with
    | .Try body [.ExceptHandler (some (.Name y' _)) nm [.Return (some e) _] _] [] [] _ => decide (y = y') && (glB sc y && (nmB y && (slB N sc i nm && (heB nm (nsOf fn ys) he e && (!ys.isEmpty && (ys.all (fun x => (fn.xs.lookup x).isSome && fn.hs.any (fun q => strEq q.1 x && (strEq q.2.1 y && q.2.2))) && (zs.all (fun x => fn.hs.any (fun q => strEq q.1 x && (strEq q.2.1 y && !q.2.2))) && chkB N sc b body)))))))
    | _ => false)
def chkB (N : List Str) (sc : Scope) : MB → List Stmt → Bool
  | .nil, ss => (match ss with | [] => true | _ => false)
  | .cons m ms, ss => (match ss with | s :: ss => chkS N sc m s && chkB N sc ms ss | _ => false)
end
end
example : chkE ⟨[], [], []⟩ [] [] { kind := .function, names := [], isGenerator := false, isCoroutine := false } true (.bin .add (.int 1) (.int 2)) (.BinOp (.Constant (.int 1) 0 ⟨0,0,0,0⟩) .Add (.Constant (.int 2) 0 ⟨0,0,0,0⟩) ⟨0,0,0,0⟩) = true := rfl
end Mi

set_option Elab.async false
set_option linter.all false
set_option maxRecDepth 100000
set_option maxHeartbeats 4000000
/-! Mi: where the look is passed, the text does what the words say. -/
namespace Mi
open PySem PySem.Spec PyProof.Rows L2

def bltNames : List Str := ["len", "int", "abs", "max", "min", "tuple", "list", "sum", "isinstance", "range", "bool", "str", "dict", "set"]
structure Gok (fn : Fns) (gn : List Str) (gls : List D) (tb : List MF) (P : Program) (w : World) (K : PySem.W.Frag) (mg : Str → Option Value) (base : Heap) (k : Nat) : Prop where
  blt : ∀ x ∈ bltNames, mg x = none
  fns : ∀ (f : Nat) (x : Str) (ps : List Str), fn.ds[f]? = some (x, ps) → ∃ a fd, mg x = some (.ref a) ∧ PySem.W.keepIn K (.ref a) = true ∧ Binds K fd ps [] ∧ (∀ (s : Shared) (ws : List Value), ws.length = ps.length → BindsTo s fd ⟨[], ps.zip ws⟩ (ps.zip ws)) ∧ FnOk P w K mg base (L2.CX P w) (k + 2) a fd ps (lfP K mg (run gls tb k f))
  cns : ∀ (i : Nat) (x : Str) (d : D), gn[i]? = some x → gls[i]? = some d → ∃ u v, mg x = some u ∧ RelV v u ∧ ∀ loc H, RD K loc H d v
  exs : ∀ (x : Str) (fs : List Str), fn.xs.lookup x = some fs → ∃ C, XCls P w K mg base x fs C
  exm : ∀ (x y : Str) (b : Bool), (x, y, b) ∈ fn.hs → ∃ (C : Addr) (c : Value), mg x = some (.ref C) ∧ mg y = some c ∧ PySem.W.exmOne K (.ref C) c = some b
structure Cok (fn : Fns) (gn : List Str) (gls : List D) (tb : List MF) (k : Nat) (N : List Str) (sc : Scope) (d : Bool) (X : Cx) (bb : BB) (EX : Ex) : Prop where
  calm : X.calm = true
  hN : X.N = N
  nd : N.Nodup
  hsc : X.env.scope = sc
  kd : sc.kind = .function
  fnc : d = true → ∀ x, X.fn x = true
  room : Room (k + 2) X.A
  bn : bb.n = N.length
  stk : d = true → X.stack = X.env :: X.outer ∧ X.env.frame = some X.env.locals
  ex : ∃ W, Takes X W ∧ XW X.K X.mg bb EX W
  po : PassesOwn (model X.prog X.w) X.A X.env X.xe
  gb : Gok fn gn gls tb X.prog X.w X.K X.mg X.base k
section
variable {fn : Fns} {gn : List Str} {gls : List D} {tb : List MF} {k : Nat} {N : List Str} {sc : Scope} {d : Bool} {X : Cx} {bb : BB} {EX : Ex}
theorem ba {a b : Bool} (h : (a && b) = true) : a = true ∧ b = true := Bool.and_eq_true_iff.mp h
theorem Cok.gl (c : Cok fn gn gls tb k N sc d X bb EX) {x : Str} (h : glB sc x = true) : Gl X x := by
  show X.env.scope.names.lookup x = some .globalImplicit
  rw [c.hsc]
  exact of_decide_eq_true h
theorem Cok.vis (c : Cok fn gn gls tb k N sc d X bb EX) {x : Str} (h : visB sc x = true) : Vis X.env.scope x := by
  rw [c.hsc]
  unfold visB at h
  rw [Bool.or_eq_true, Bool.or_eq_true] at h
  rcases h with h | h | h
  · exact .inl (of_decide_eq_true h)
  · exact .inr (.inl (of_decide_eq_true h))
  · exact .inr (.inr (of_decide_eq_true h))
theorem Cok.loc (c : Cok fn gn gls tb k N sc d X bb EX) {x : Str} (h : locB d sc x = true) : Loc X.env.scope x ∧ (X.fn x = true ∨ X.env.scope.names.lookup x = some .local) := by
  rw [c.hsc]
  unfold locB at h
  rw [Bool.or_eq_true] at h
  rcases h with h | h
  · exact ⟨.inl (of_decide_eq_true h), .inr (of_decide_eq_true h)⟩
  · obtain ⟨h1, h2⟩ := ba h
    exact ⟨.inr (of_decide_eq_true h2), .inl (c.fnc h1 x)⟩
theorem nm1 {x : Str} (h : nmB x = true) : (x == ("__debug__" : Str)) = false := by
  obtain ⟨h1, _⟩ := ba h
  simpa using h1
theorem nm2 {x : Str} (h : nmB x = true) : (x == ("__classdict__" : Str)) = false := by
  obtain ⟨_, h2⟩ := ba h
  simpa using h2
theorem Cok.at_ (c : Cok fn gn gls tb k N sc d X bb EX) {i : Nat} {x : Str} (h : decide (N[i]? = some x) = true) : X.N[i]? = some x := by
  rw [c.hN]
  exact of_decide_eq_true h
/-- an expression that passes the look is of a plain kind -/
theorem plain_of {m : ME} {e : Expr} (h : chkE fn gn N sc d m e = true) : plainE e = true := by
  cases e <;> first | rfl | (cases m <;> exact Bool.noConfusion (show false = true from h))
theorem plain_star {e : Expr} {es : List Expr} (h : plainE e = true) : starEach (e :: es) X.env = (false, eval e X.env) :: starEach es X.env := by
  obtain ⟨h1, _⟩ := ba h
  cases e <;> first | rfl | cases h1
theorem plain_mark {e : Expr} {op : CmpOp} (h : plainE e = true) : behindInMarks op e = false := by
  obtain ⟨_, h2⟩ := ba h
  obtain ⟨h3, _⟩ := ba h2
  cases e <;> first | rfl | cases h3
theorem plain_fold {e : Expr} (h : plainE e = true) : ∀ x, foldedSetIterable e X.env x = pure x := by
  obtain ⟨_, h2⟩ := ba h
  obtain ⟨h3, _⟩ := ba h2
  intro x
  cases e <;> first | rfl | cases h3
theorem plain_ix {e : Expr} (h : plainE e = true) : PlainIx e := by
  obtain ⟨_, h2⟩ := ba h
  obtain ⟨_, h4⟩ := ba h2
  intro o i
  cases e <;> first | rfl | cases h4
/-- arguments: none is starred -/
theorem nostar_of : ∀ {ms : MEs} {es : List Expr}, chkEs fn gn N sc d ms es = true → ∀ e ∈ es, plainE e = true
  | .nil, [], _, e, he => by cases he
  | .nil, _ :: _, h, _, _ => Bool.noConfusion (show false = true from h)
  | .cons m ms, [], h, _, _ => Bool.noConfusion (show false = true from h)
  | .cons m ms, e1 :: es, h, e, he => by
    obtain ⟨h1, h2⟩ := ba (a := chkE fn gn N sc d m e1) (b := chkEs fn gn N sc d ms es) h
    rcases List.mem_cons.mp he with rfl | he
    · exact plain_of h1
    · exact nostar_of h2 e he
theorem star_all (X : Cx) : ∀ {es : List Expr}, (∀ e ∈ es, plainE e = true) → (starEach es X.env).any (·.1) = false
  | [], _ => rfl
  | e :: es, h => by
    rw [plain_star (h e List.mem_cons_self)]
    simpa using star_all X fun e he => h e (List.mem_cons_of_mem _ he)
theorem star_back {pos : Pos} {es : List Expr} (h : ∀ e ∈ es, plainE e = true) : (backTo pos (starEach es X.env)).any (·.1) = false := by
  have q := star_all X h
  unfold backTo
  rw [List.any_map]
  exact q
theorem star_len (X : Cx) : ∀ {es : List Expr}, (starEach es X.env).length = es.length
  | [] => rfl
  | e :: es => by
    have q := star_len X (es := es)
    cases e <;> simp [starEach, q]
theorem M2_trees {cpos : Pos} {e f : Expr} (h1 : plainE e = true) (h2 : plainE f = true) : backTo cpos (starEach [e, f] X.env) = [(false, eval e X.env), (false, eval f X.env)] := by
  rw [plain_star h1, plain_star h2]
  rfl
theorem hu64_of (c : Cok fn gn gls tb k N sc d X bb EX) : X.A.units + 64 < cLine := by
  have := c.room.un
  omega
theorem few_of {cpos : Pos} {e : Expr} {es : List Expr} (h : ∀ z ∈ e :: es, plainE z = true) (hl : (e :: es).length < 20) : ((backTo cpos (starEach (e :: es) X.env)).all (fun x => !x.1) && (backToKw cpos (keywordEach [] X.env)).all (fun x => x.1.isSome)
      && decide ((e :: es).length + ([] : List Keyword).length + (if ([] : List Keyword).isEmpty then 0 else 1) < 30)) = true := by
  have q := star_back (X := X) (pos := cpos) h
  rw [Bool.and_eq_true, Bool.and_eq_true]
  refine ⟨⟨?_, rfl⟩, decide_eq_true (by show (e :: es).length + 0 + 0 < 30; omega)⟩
  rw [List.all_eq_true]
  intro x hx
  have : (backTo cpos (starEach (e :: es) X.env)).any (·.1) = false := q
  rw [List.any_eq_false] at this
  simpa using this x hx
theorem base_of {e : Expr} {nm : Str} (h : baseB e = true) : attributeBase e nm X.env (eval e X.env) = eval e X.env := by
  cases e <;> first | rfl | cases h
end
end Mi

set_option Elab.async false
set_option linter.all false
set_option maxRecDepth 100000
set_option maxHeartbeats 4000000
namespace Mi
open PySem PySem.Spec PyProof.Rows L2
section
variable {fn : Fns} {gn : List Str} {gls : List D} {tb : List MF} {k : Nat} {N : List Str} {sc : Scope} {d : Bool} {X : Cx} {bb : BB} {EX : Ex}
theorem nc {P : Prop} (h : false = true) : P := Bool.noConfusion h
theorem pgs_of (c : Cok fn gn gls tb k N sc d X bb EX) : ∀ {is : List Nat} {ts : List Expr}, chkNs N sc d is ts = true → PGs X ts (gNames is) ∧ (assignEach ts X.env).length = is.length ∧ (assignEach ts X.env).findIdx? (·.1) = none
  | [], [], _ => ⟨pgs_nil, rfl, rfl⟩
  | [], _ :: _, h => nc h
  | i :: is, [], h => nc h
  | i :: is, t :: ts, h => by
    cases t <;> first | exact nc h | skip
    rename_i x p
    obtain ⟨h1, h2⟩ := ba (show (decide (N[i]? = some x) && (locB d sc x && chkNs N sc d is ts)) = true from h)
    obtain ⟨h2, h3⟩ := ba h2
    obtain ⟨q1, q2, q3⟩ := pgs_of c h3
    obtain ⟨l1, l2⟩ := c.loc h2
    refine ⟨pgs_cons (pg_name (by rw [c.hN]; exact c.nd) (c.at_ h1) l1 l2) q1 rfl, ?_, ?_⟩
    · show ((assignEach ts X.env).length + 1) = is.length + 1
      rw [q2]
    · show (List.findIdx? (·.1) ((false, _) :: assignEach ts X.env)) = none
      rw [List.findIdx?_cons]
      simp [q3]
theorem blk_ok {scope : Scope} {s : Shared} {H : Hp} {C : Addr} {cl : List (Str × Addr)} {fp : List Addr} (c : Cok fn gn gls tb k N sc d X bb EX) (hk : scope.kind = .function) :
    Cok fn gn gls tb k N (relS scope sc) false (X.blk s H scope (compEnvC scope cl C X.env) fp) bb EX0 where
  calm := c.calm
  hN := c.hN
  nd := c.nd
  hsc := by
    show relabel scope X.env = relS scope sc
    rw [← c.hsc]
    rfl
  kd := hk
  fnc := fun h => nc h
  room := c.room
  bn := c.bn
  stk := fun h => nc h
  ex := ⟨_, takesN, fun _ _ _ _ _ _ _ _ _ _ z => z.elim⟩
  po := PassesOwn.never
  gb := c.gb
theorem sw_cell {elt : Expr} {gs : List Comprehension} {scope : Scope} {pos py : Pos} {y : Str} {l : Nat} {env : Env} (hy : env.scope.names.lookup y = some .cell) : swapsWith (.ListComp elt gs scope pos) (some (.Name y py)) l env = pure false := by
  have ky : env.kindOf y = some .cell := hy
  unfold swapsWith
  simp only [ky]
  have z : (some NameKind.cell == some NameKind.local) = false := by decide
  rw [z]
  simp
theorem sw_plain {e : Expr} {t : Option Expr} {l : Nat} {env : Env} (h : noComp e = true) : swapsWith e t l env = pure false := by
  cases e <;> first | exact nc h | rfl
theorem sw_other {e : Expr} {t : Expr} {l : Nat} {env : Env} (h : (match t with | .Name _ _ => false | _ => true) = true) : swapsWith e (some t) l env = pure false := by
  cases t <;> first | exact nc h | (cases e <;> rfl)
theorem stores_swap {x y : Str} {a b : Expr} {px py pt : Pos} {kt k2 pt2} (hk : X.env.scope.kind = .function) (hx : X.env.scope.names.lookup x = some .local) (hy : X.env.scope.names.lookup y = some .local) (hl : (py.line == px.line) = true) (hne : (x == y) = false)
    (h1 : noStar a = true) (h2 : noStar b = true) (hf : ([a, b].all (foldedForSure 8)) = false) (hc : ([a, b].all (constantsAlone 8)) = false) :
    swappedStores [.Tuple [.Name x px, .Name y py] kt pt] (.Tuple [a, b] k2 pt2) X.env = pure (some [x, y]) := by
  have kx : X.env.kindOf x = some .local := hx
  have ky : X.env.kindOf y = some .local := hy
  have hb : X.env.blockKind = .function := by unfold Env.blockKind; rw [hk]; rfl
  have hyx : (y == x) = false := by
    rw [beq_eq_false_iff_ne] at hne ⊢
    exact hne.symm
  unfold swappedStores
  have s1 : (match a with | .Starred .. => true | _ => false) = false := by cases a <;> first | rfl | exact nc h1
  have s2 : (match b with | .Starred .. => true | _ => false) = false := by cases b <;> first | rfl | exact nc h2
  have hl' : py.line = px.line := by simpa using hl
  have e1 : [x, y].eraseDups.length = 2 := by simp [List.eraseDups_cons, hyx]
  simp only [hb, kx, ky, Expr.pos, List.length_cons, List.length_nil, List.any_cons, List.any_nil, s1, s2, List.head?_cons, Option.map_some, Option.getD_some, List.filterMap_cons, List.filterMap_nil, hl', hf, hc, BEq.rfl, Bool.and_self, if_true]
  simp [e1, hb, hf, hc]
  intro h
  exfalso
  rcases h with h | h
  · cases a <;> first | exact nc h1 | exact nc h
  · cases b <;> first | exact nc h2 | exact nc h
theorem ty_name (u : Tyn) : bootBuiltins (tyName u) = some (.type (tynStr u)) ∧ tyName u ∈ bltNames ∧ tyName u ≠ "__name__" ∧ (tyName u == ("__debug__" : Str)) = false := by
  cases u <;> exact ⟨by decide +kernel, by decide +kernel, by decide +kernel, by decide +kernel⟩
theorem blt_in (f : Blt) : bltStr f ∈ bltNames := by cases f <;> decide +kernel
theorem isi_in : ("isinstance" : Str) ∈ bltNames := by decide +kernel
theorem rng_in : ("range" : Str) ∈ bltNames := by decide +kernel
theorem pts_none {X : Cx} : PTs X [] (lfT bb X.K fun _ h Q => Q true h) := ⟨fun pins s σ H Q I ⟨loc, σ', h, Q', rs, rh, w, k⟩ => pts_nil.run pins s σ H Q I (k _ _ _ _ w Xt.refl rh)⟩
theorem fn_at1 {fn : List (Str × List Str)} {f : Nat} {x : Str} (h : (fn[f]?).map (·.1) = some x) : ∃ ps, fn[f]? = some (x, ps) := by
  cases g : fn[f]? with
  | none => rw [g] at h; cases h
  | some y => rw [g] at h; cases h; exact ⟨y.2, rfl⟩
theorem pe_non_any {e : Expr} : PE X e (fun _ _ _ => False) := ⟨fun _ _ _ _ _ _ h => h.elim⟩
theorem lc_parts {a b1 b2 b3 b4 b5 : Bool} (h : (a && (b1 && (b2 && (b3 && (b4 && b5))))) = true) : a = true ∧ b1 = true ∧ b2 = true ∧ b3 = true ∧ b4 = true ∧ b5 = true := by
  simpa [Bool.and_eq_true] using h
/-- a comprehension's target -/
theorem lc_goal (gls : List D) (tb : List MF) {scope : Scope} {t : MT} {tg : Expr} (c : Cok fn gn gls tb k N sc d X bb EX) (hb : blkC N sc scope ((slotsOf t).map fun i => (N.getD i Str.empty, i)) = true) (hG : chkGc fn gn N (relS scope sc) t tg = true) :
    ∃ g : TG, OwnG bb X.K (wG gls (run gls tb k) EX0 t) g (slotsOf t) ∧ (∀ (s : Shared) (H : Hp) (C : Addr) (cl : List (Str × Addr)) (fp : List Addr), PG (X.blk s H scope (compEnvC scope cl C X.env) fp) tg g) ∧
      BlkOk X.N X.env.scope scope ((slotsOf t).map fun i => (N.getD i Str.empty, i)) ∧ ((slotsOf t).map fun i => (N.getD i Str.empty, i)).map (·.2) = slotsOf t := by
  have ok : BlkOk X.N X.env.scope scope ((slotsOf t).map fun i => (N.getD i Str.empty, i)) := by rw [c.hN, c.hsc]; exact blkOk_by hb
  have ei : ((slotsOf t).map fun i => (N.getD i Str.empty, i)).map (·.2) = slotsOf t := by rw [List.map_map]; exact List.map_id' _
  cases t with
  | name i =>
    cases tg <;> first | exact nc hG | skip
    rename_i x p
    obtain ⟨h1, h2⟩ := ba hG
    refine ⟨gName i, own_name (by simp [slotsOf]), fun s H C cl fp => ?_, ok, ei⟩
    have c' := blk_ok (s := s) (H := H) (C := C) (cl := cl) (fp := fp) c ok.kind
    obtain ⟨l1, l2⟩ := c'.loc h2
    exact pg_name (by rw [c'.hN]; exact c.nd) (c'.at_ h1) l1 l2
  | tup is =>
    cases tg <;> first | exact nc hG | skip
    refine ⟨gTup X.K is.length (gNames is), own_tup (fun i hi => hi), fun s H C cl fp => ?_, ok, ei⟩
    have c' := blk_ok (s := s) (H := H) (C := C) (cl := cl) (fp := fp) c ok.kind
    obtain ⟨q1, q2, q3⟩ := pgs_of c' hG
    exact pg_tup c'.calm q1 q2 q3
  | sub a i => exact nc hG
variable (gls tb)
mutual
theorem sndB : ∀ (m : ME), (∀ (N : List Str) (sc : Scope) (d : Bool) (X : Cx) (bb : BB) (EX : Ex) (e : Expr), Cok fn gn gls tb k N sc d X bb EX → chkE fn gn N sc d m e = true → PE X e (lfE bb X.K (wE gls (run gls tb k) EX m))) ∧
    (∀ (N : List Str) (sc : Scope) (d : Bool) (X : Cx) (bb : BB) (EX : Ex) (e : Expr), Cok fn gn gls tb k N sc d X bb EX → chkT fn gn N sc d m e = true → PT X e (lfT bb X.K (wT gls (run gls tb k) EX m))) ∧
    (∀ (N : List Str) (sc : Scope) (d : Bool) (X : Cx) (bb : BB) (EX : Ex) (op : BoolOp) (vs : List Expr) (pos : Pos), Cok fn gn gls tb k N sc d X bb EX → chkT fn gn N sc d m (.BoolOp op vs pos) = true → PW X (.BoolOp op vs pos) (lfT bb X.K (wT gls (run gls tb k) EX m)))
  | .non => by
    refine ⟨?_, ?_, fun N sc d X bb EX op vs pos c h => nc h⟩
    · exact fun N sc d X bb EX e c h => by
        cases e <;> first | exact nc h | skip
        rename_i v _ _
        cases v <;> first | exact nc h | exact s_cst pe_non fun _ _ => rd_non
    · exact fun N sc d X bb EX e c h => nc h
  | .bl b => by
    refine ⟨?_, ?_, fun N sc d X bb EX op vs pos c h => nc h⟩
    · exact fun N sc d X bb EX e c h => by
        cases e <;> first | exact nc h | skip
        rename_i v _ _
        cases v <;> first | exact nc h | skip
        obtain rfl := of_decide_eq_true h
        exact s_cst pe_bl fun _ _ => rd_bl
    · exact fun N sc d X bb EX e c h => by
        cases e <;> first | exact nc h | skip
        rename_i v _ _
        cases v <;> first | exact nc h | skip
        obtain rfl := of_decide_eq_true h
        exact pt_imp (b_val (X := X) (s_cst (d := .bl b) (v := .bl b) pe_bl fun _ _ => rd_bl) fun _ => rfl) fun _ _ _ w => w
  | .int i => by
    refine ⟨?_, ?_, fun N sc d X bb EX op vs pos c h => nc h⟩
    · exact fun N sc d X bb EX e c h => by
        cases e <;> first | exact nc h | skip
        rename_i v _ _
        cases v <;> first | exact nc h | skip
        obtain rfl := of_decide_eq_true h
        exact s_cst pe_int fun _ _ => rd_int
    · exact fun N sc d X bb EX e c h => nc h
  | .str x => by
    refine ⟨?_, ?_, fun N sc d X bb EX op vs pos c h => nc h⟩
    · exact fun N sc d X bb EX e c h => by
        cases e <;> first | exact nc h | skip
        rename_i v _ _
        cases v <;> first | exact nc h | skip
        obtain rfl := of_decide_eq_true h
        exact s_cst pe_str fun _ _ => rd_str
    · exact fun N sc d X bb EX e c h => nc h
  | .var i => by
    refine ⟨?_, ?_, fun N sc d X bb EX op vs pos c h => nc h⟩
    · exact fun N sc d X bb EX e c h => by
        cases e <;> first | exact nc h | skip
        obtain ⟨h1, h2⟩ := ba h
        obtain ⟨h2, h3⟩ := ba h2
        exact s_var (pe_var (c.at_ h1) (c.vis h2) (nm1 h3) (nm2 h3))
    · exact fun N sc d X bb EX e c h => by
        cases e <;> first | exact nc h | skip
        obtain ⟨h1, g1⟩ := ba h
        obtain ⟨h2, h3⟩ := ba g1
        exact b_val (s_var (pe_var (c.at_ h1) (c.vis h2) (nm1 h3) (nm2 h3))) fun _ => rfl
  | .gl i => by
    refine ⟨?_, ?_, fun N sc d X bb EX op vs pos c h => nc h⟩
    · exact fun N sc d X bb EX e c h => by
        cases e <;> first | exact nc h | skip
        rename_i x _
        obtain ⟨h1, h2⟩ := ba h
        obtain ⟨h2, h3⟩ := ba h2
        cases g : gls[i]? with
        | none =>
          refine pe_imp (pe_non_any : PE X _ fun _ _ _ => False) fun s H Q w => ?_
          obtain ⟨loc, σ, hh, Q', rs, rh, w, _⟩ := w
          have w' : (match gls[i]? with
              | some d => Q' d hh
              | none => False) := w
          rw [g] at w'
          exact w'
        | some dd =>
          obtain ⟨u, v, hm, r, rd⟩ := c.gb.cns i x dd (of_decide_eq_true h1) g
          refine pe_imp (s_cst (pe_glob (c.gl h2) hm r (nm1 h3)) rd) fun s H Q ⟨loc, σ, hh, Q', rs, rh, w, kk⟩ => ⟨loc, σ, hh, Q', rs, rh, ?_, kk⟩
          have w' : (match gls[i]? with
              | some d => Q' d hh
              | none => False) := w
          rw [g] at w'
          exact w'
    · exact fun N sc d X bb EX e c h => nc h
  | .bin op a b => by
    refine ⟨?_, ?_, fun N sc d X bb EX op vs pos c h => nc h⟩
    · exact fun N sc d X bb EX e c h => by
        cases e <;> first | exact nc h | skip
        obtain ⟨h1, h2⟩ := ba h
        obtain ⟨h2, h3⟩ := ba h2
        rw [of_decide_eq_true h1]
        exact s_bin op ((sndB a).1 N sc d X bb EX _ c h2) ((sndB b).1 N sc d X bb EX _ c h3)
    · exact fun N sc d X bb EX e c h => nc h
  | .neg a => by
    refine ⟨?_, ?_, fun N sc d X bb EX op vs pos c h => nc h⟩
    · exact fun N sc d X bb EX e c h => by
        cases e <;> first | exact nc h | skip
        rename_i o ea _
        cases o <;> first | exact nc h | exact s_neg ((sndB a).1 N sc d X bb EX _ c h)
    · exact fun N sc d X bb EX e c h => nc h
  | .not a => by
    refine ⟨?_, ?_, fun N sc d X bb EX op vs pos c h => nc h⟩
    · exact fun N sc d X bb EX e c h => by
        cases e <;> first | exact nc h | skip
        rename_i o ea _
        cases o <;> first | exact nc h | exact s_not ((sndB a).1 N sc d X bb EX _ c h)
    · exact fun N sc d X bb EX e c h => by
        cases e <;> first | exact nc h | skip
        rename_i o ea _
        cases o <;> first | exact nc h | exact b_not ((sndB a).2.1 N sc d X bb EX _ c h)
  | .cmp op a b => by
    refine ⟨?_, ?_, fun N sc d X bb EX op vs pos c h => nc h⟩
    · exact fun N sc d X bb EX e c h => by
        cases e <;> first | exact nc h | skip
        rename_i ea ops cs _
        match ops, cs, h with
        | [o], [eb], h =>
          obtain ⟨h1, h2⟩ := ba (show (decide (o = copOf op) && (chkE fn gn N sc d a ea && chkE fn gn N sc d b eb)) = true from h)
          obtain ⟨h2, h3⟩ := ba h2
          rw [of_decide_eq_true h1]
          exact s_cmp (hu64_of c) op ((sndB a).1 N sc d X bb EX _ c h2) ((sndB b).1 N sc d X bb EX _ c h3) (plain_mark (plain_of h3))
        | [], _, h => exact nc h
        | [_], [], h => exact nc h
        | [_], _ :: _ :: _, h => exact nc h
        | _ :: _ :: _, [], h => exact nc h
        | _ :: _ :: _, [_], h => exact nc h
        | [_, _], _ :: _ :: _, h => exact nc h
        | _ :: _ :: _ :: _, _ :: _ :: _, h => exact nc h
    · exact fun N sc d X bb EX e c h => by
        cases e <;> first | exact nc h | skip
        rename_i ea ops cs _
        match ops, cs, h with
        | [o], [eb], h =>
          obtain ⟨h1, h2⟩ := ba (show (decide (o = copOf op) && (chkE fn gn N sc d a ea && chkE fn gn N sc d b eb)) = true from h)
          obtain ⟨h2, h3⟩ := ba h2
          rw [of_decide_eq_true h1]
          exact b_cmp (hu64_of c) op ((sndB a).1 N sc d X bb EX _ c h2) ((sndB b).1 N sc d X bb EX _ c h3) (plain_mark (plain_of h3))
        | [], _, h => exact nc h
        | [_], [], h => exact nc h
        | [_], _ :: _ :: _, h => exact nc h
        | _ :: _ :: _, [], h => exact nc h
        | _ :: _ :: _, [_], h => exact nc h
        | [_, _], _ :: _ :: _, h => exact nc h
        | _ :: _ :: _ :: _, _ :: _ :: _, h => exact nc h
  | .chain op op' a b cc => by
    refine ⟨?_, ?_, fun N sc d X bb EX op vs pos c h => nc h⟩
    · exact fun N sc d X bb EX e c h => by
        cases e <;> first | exact nc h | skip
        rename_i ea ops cs _
        match ops, cs, h with
        | [o, o'], [eb, ec], h =>
          obtain ⟨h1, h2⟩ := ba (show (decide (o = copOf op) && (decide (o' = copOf op') && (chkE fn gn N sc d a ea && (chkE fn gn N sc d b eb && chkE fn gn N sc d cc ec)))) = true from h)
          obtain ⟨h2, h3⟩ := ba h2
          obtain ⟨h3, h4⟩ := ba h3
          obtain ⟨h4, h5⟩ := ba h4
          rw [of_decide_eq_true h1, of_decide_eq_true h2]
          exact s_chain (hu64_of c) op op' ((sndB a).1 N sc d X bb EX _ c h3) ((sndB b).1 N sc d X bb EX _ c h4) ((sndB cc).1 N sc d X bb EX _ c h5) (plain_mark (plain_of h5))
        | [], _, h => exact nc h
        | [_], _, h => exact nc h
        | [_, _], [], h => exact nc h
        | [_, _], [_], h => exact nc h
        | [_, _], _ :: _ :: _ :: _, h => exact nc h
        | _ :: _ :: _ :: _, _, h => exact nc h
    · exact fun N sc d X bb EX e c h => by
        cases e <;> first | exact nc h | skip
        rename_i ea ops cs _
        match ops, cs, h with
        | [o, o'], [eb, ec], h =>
          obtain ⟨h1, h2⟩ := ba (show (decide (o = copOf op) && (decide (o' = copOf op') && (chkE fn gn N sc d a ea && (chkE fn gn N sc d b eb && chkE fn gn N sc d cc ec)))) = true from h)
          obtain ⟨h2, h3⟩ := ba h2
          obtain ⟨h3, h4⟩ := ba h3
          obtain ⟨h4, h5⟩ := ba h4
          rw [of_decide_eq_true h1, of_decide_eq_true h2]
          exact b_chain (hu64_of c) op op' ((sndB a).1 N sc d X bb EX _ c h3) ((sndB b).1 N sc d X bb EX _ c h4) ((sndB cc).1 N sc d X bb EX _ c h5) (plain_mark (plain_of h5))
        | [], _, h => exact nc h
        | [_], _, h => exact nc h
        | [_, _], [], h => exact nc h
        | [_, _], [_], h => exact nc h
        | [_, _], _ :: _ :: _ :: _, h => exact nc h
        | _ :: _ :: _ :: _, _, h => exact nc h
  | .and a b => by
    have E : ∀ (N : List Str) (sc : Scope) (d : Bool) (X : Cx) (bb : BB) (EX : Ex) (e : Expr), Cok fn gn gls tb k N sc d X bb EX → chkE fn gn N sc d (.and a b) e = true → PE X e (lfE bb X.K (wE gls (run gls tb k) EX (.and a b))) := fun N sc d X bb EX e c h => by
      cases e <;> first | exact nc h | skip
      rename_i o vs pos
      cases o <;> first | exact nc h | skip
      match vs, h with
      | [ea, eb], h =>
        obtain ⟨h1, h2⟩ := ba (show (chkE fn gn N sc d a ea && chkE fn gn N sc d b eb) = true from h)
        exact s_and ((sndB a).1 N sc d X bb EX _ c h1) (pe_one ((sndB b).1 N sc d X bb EX _ c h2))
      | ea :: eb :: ec :: r, h =>
        obtain ⟨h1, h2⟩ := ba (show (chkE fn gn N sc d a ea && chkE fn gn N sc d b (.BoolOp .And (eb :: ec :: r) pos)) = true from h)
        exact s_and ((sndB a).1 N sc d X bb EX _ c h1) ((sndB b).1 N sc d X bb EX _ c h2)
      | [], h => exact nc h
      | [_], h => exact nc h
    have W : ∀ (N : List Str) (sc : Scope) (d : Bool) (X : Cx) (bb : BB) (EX : Ex) (op : BoolOp) (vs : List Expr) (pos : Pos), Cok fn gn gls tb k N sc d X bb EX → chkT fn gn N sc d (.and a b) (.BoolOp op vs pos) = true → PW X (.BoolOp op vs pos) (lfT bb X.K (wT gls (run gls tb k) EX (.and a b))) := fun N sc d X bb EX op vs pos c h => by
      cases op <;> first | exact nc h | skip
      match vs, h with
      | [ea, eb], h =>
        obtain ⟨h1, h2⟩ := ba (show (chkT fn gn N sc d a ea && chkT fn gn N sc d b eb) = true from h)
        exact b_and ((sndB a).2.1 N sc d X bb EX _ c h1) (pw_and1 ((sndB b).2.1 N sc d X bb EX _ c h2))
      | ea :: eb :: ec :: r, h =>
        obtain ⟨h1, h2⟩ := ba (show (chkT fn gn N sc d a ea && chkT fn gn N sc d b (.BoolOp .And (eb :: ec :: r) pos)) = true from h)
        exact b_and ((sndB a).2.1 N sc d X bb EX _ c h1) ((sndB b).2.2 N sc d X bb EX _ _ pos c h2)
      | [], h => exact nc h
      | [_], h => exact nc h
    refine ⟨E, fun N sc d X bb EX e c h => ?_, W⟩
    cases e <;> first | exact nc h | exact (W N sc d X bb EX _ _ _ c h).pt
  | .or a b => by
    have E : ∀ (N : List Str) (sc : Scope) (d : Bool) (X : Cx) (bb : BB) (EX : Ex) (e : Expr), Cok fn gn gls tb k N sc d X bb EX → chkE fn gn N sc d (.or a b) e = true → PE X e (lfE bb X.K (wE gls (run gls tb k) EX (.or a b))) := fun N sc d X bb EX e c h => by
      cases e <;> first | exact nc h | skip
      rename_i o vs pos
      cases o <;> first | exact nc h | skip
      match vs, h with
      | [ea, eb], h =>
        obtain ⟨h1, h2⟩ := ba (show (chkE fn gn N sc d a ea && chkE fn gn N sc d b eb) = true from h)
        exact s_or ((sndB a).1 N sc d X bb EX _ c h1) (pe_one ((sndB b).1 N sc d X bb EX _ c h2))
      | ea :: eb :: ec :: r, h =>
        obtain ⟨h1, h2⟩ := ba (show (chkE fn gn N sc d a ea && chkE fn gn N sc d b (.BoolOp .Or (eb :: ec :: r) pos)) = true from h)
        exact s_or ((sndB a).1 N sc d X bb EX _ c h1) ((sndB b).1 N sc d X bb EX _ c h2)
      | [], h => exact nc h
      | [_], h => exact nc h
    have W : ∀ (N : List Str) (sc : Scope) (d : Bool) (X : Cx) (bb : BB) (EX : Ex) (op : BoolOp) (vs : List Expr) (pos : Pos), Cok fn gn gls tb k N sc d X bb EX → chkT fn gn N sc d (.or a b) (.BoolOp op vs pos) = true → PW X (.BoolOp op vs pos) (lfT bb X.K (wT gls (run gls tb k) EX (.or a b))) := fun N sc d X bb EX op vs pos c h => by
      cases op <;> first | exact nc h | skip
      match vs, h with
      | [ea, eb], h =>
        obtain ⟨h1, h2⟩ := ba (show (chkT fn gn N sc d a ea && chkT fn gn N sc d b eb) = true from h)
        exact b_or ((sndB a).2.1 N sc d X bb EX _ c h1) (pw_or1 ((sndB b).2.1 N sc d X bb EX _ c h2))
      | ea :: eb :: ec :: r, h =>
        obtain ⟨h1, h2⟩ := ba (show (chkT fn gn N sc d a ea && chkT fn gn N sc d b (.BoolOp .Or (eb :: ec :: r) pos)) = true from h)
        exact b_or ((sndB a).2.1 N sc d X bb EX _ c h1) ((sndB b).2.2 N sc d X bb EX _ _ pos c h2)
      | [], h => exact nc h
      | [_], h => exact nc h
    refine ⟨E, fun N sc d X bb EX e c h => ?_, W⟩
    cases e <;> first | exact nc h | exact (W N sc d X bb EX _ _ _ c h).pt
  | .ife t a b => by
    refine ⟨?_, ?_, fun N sc d X bb EX op vs pos c h => nc h⟩
    · exact fun N sc d X bb EX e c h => by
        cases e <;> first | exact nc h | skip
        obtain ⟨h1, h2⟩ := ba h
        obtain ⟨h2, h3⟩ := ba h2
        exact s_ife ((sndB t).2.1 N sc d X bb EX _ c h1) ((sndB a).1 N sc d X bb EX _ c h2) ((sndB b).1 N sc d X bb EX _ c h3)
    · exact fun N sc d X bb EX e c h => nc h
  | .call f es => by
    have E : ∀ (N : List Str) (sc : Scope) (d : Bool) (X : Cx) (bb : BB) (EX : Ex) (e : Expr), Cok fn gn gls tb k N sc d X bb EX → chkE fn gn N sc d (.call f es) e = true → PE X e (lfE bb X.K (wE gls (run gls tb k) EX (.call f es))) := fun N sc d X bb EX e c h => by
      cases e <;> first | exact nc h | skip
      rename_i fe as kw pos
      cases fe <;> first | exact nc h | skip
      rename_i x px
      cases kw <;> first | exact nc h | skip
      obtain ⟨h1, g1⟩ := ba h
      obtain ⟨h2, g2⟩ := ba g1
      obtain ⟨h3, h4⟩ := ba g2
      obtain ⟨ps, hps⟩ := fn_at1 (of_decide_eq_true h1)
      obtain ⟨a, fd, hm, hk, hb, _, F⟩ := c.gb.fns f x ps hps
      obtain ⟨W, tk, xw⟩ := c.ex
      have pl := nostar_of h4
      cases as with
      | nil =>
        cases es <;> first | exact nc h4 | skip
        exact s_call0 tk xw F c.room (c.gl h2) hm hk hb (nm1 h3)
      | cons e1 as => exact s_call tk xw F c.room (c.gl h2) hm hk hb (sndEs es N sc d X bb EX _ c h4) (nm1 h3) (plain_star (pl _ List.mem_cons_self)) (star_back fun z hz => pl z (List.mem_cons_of_mem _ hz))
    refine ⟨E, fun N sc d X bb EX e c h => ?_, fun N sc d X bb EX op vs pos c h => nc h⟩
    have q := E N sc d X bb EX e c h
    cases e <;> first | exact nc h | exact b_val q fun _ => rfl
  | .blt f es => by
    refine ⟨?_, ?_, fun N sc d X bb EX op vs pos c h => nc h⟩
    · exact fun N sc d X bb EX e c h => by
        cases e <;> first | exact nc h | skip
        rename_i fe as kw pos
        cases fe <;> first | exact nc h | skip
        rename_i x px
        cases kw <;> cases as <;> first | exact nc h | skip
        obtain ⟨h1, h2⟩ := ba h
        obtain ⟨h2, h3⟩ := ba h2
        have pl := nostar_of h3
        have hx := of_decide_eq_true h1
        exact s_blt f (v := .none) c.calm (c.gl h2) hx (by rw [hx]; exact c.gb.blt _ (blt_in f)) (sndEs es N sc d X bb EX _ c h3) (plain_star (pl _ List.mem_cons_self)) (star_back fun z hz => pl z (List.mem_cons_of_mem _ hz))
    · exact fun N sc d X bb EX e c h => nc h
  | .isi a ts => by
    have E : ∀ (N : List Str) (sc : Scope) (d : Bool) (X : Cx) (bb : BB) (EX : Ex) (e : Expr), Cok fn gn gls tb k N sc d X bb EX → chkE fn gn N sc d (.isi a ts) e = true → PE X e (lfE bb X.K (wE gls (run gls tb k) EX (.isi a ts))) := fun N sc d X bb EX e c h => by
      obtain ⟨u, ea, ty, x, p1, p2, p3, rfl, rfl, rfl, hty, g1, g2, hc⟩ : ∃ u ea ty x p1 p2 p3, ts = [u] ∧ e = .Call (.Name x p1) [ea, .Name ty p2] [] p3 ∧ x = ("isinstance" : Str) ∧ ty = tyName u ∧ glB sc x = true ∧ glB sc ty = true ∧ chkE fn gn N sc d a ea = true := by
        cases e <;> first | exact nc h | skip
        rename_i fe as kw pos
        cases fe <;> first | exact nc h | skip
        rename_i x px
        match as, h with
        | [], h => exact nc h
        | [_], h => exact nc h
        | _ :: et :: _ :: _, h => cases et <;> exact nc h
        | [ea, et], h =>
          cases et <;> first | exact nc h | skip
          rename_i ty p2
          cases kw <;> first | exact nc h | skip
          match ts, h with
          | [], h => exact nc h
          | _ :: _ :: _, h => exact nc h
          | [u], h =>
            obtain ⟨h1, g1⟩ := ba (show (decide (x = ("isinstance" : Str)) && (glB sc x && (decide (ty = tyName u) && (glB sc ty && chkE fn gn N sc d a ea)))) = true from h)
            obtain ⟨h2, g2⟩ := ba g1
            obtain ⟨h3, g3⟩ := ba g2
            obtain ⟨h4, h5⟩ := ba g3
            exact ⟨u, ea, ty, x, _, _, _, rfl, rfl, of_decide_eq_true h1, of_decide_eq_true h3, h2, h4, h5⟩
      subst hty
      obtain ⟨t1, t2, t3, t4⟩ := ty_name u
      have ht : PE X (.Name (tyName u) p2) (tC (.ty (tynStr u))) := pe_bltn (c.gl g2) (c.gb.blt _ t2) t1 rfl t3 t4
      have ha := (sndB a).1 N sc d X bb EX ea c hc
      have st1 : starEach [ea, Expr.Name (tyName u) p2] X.env = (false, eval ea X.env) :: starEach [Expr.Name (tyName u) p2] X.env := plain_star (plain_of hc)
      exact s_isi u (c.gl g1) (c.gb.blt _ isi_in) ha ht (pa_cons ha (pa_cons ht pa_nil rfl) st1) st1 rfl
    refine ⟨E, fun N sc d X bb EX e c h => ?_, fun N sc d X bb EX op vs pos c h => nc h⟩
    have q := E N sc d X bb EX e c h
    cases e <;> first | exact nc h | exact b_val q fun _ => rfl
  | .meth m o es => by
    refine ⟨?_, ?_, fun N sc d X bb EX op vs pos c h => nc h⟩
    · exact fun N sc d X bb EX e c h => by
        cases e <;> first | exact nc h | skip
        rename_i fe as kw cpos
        cases fe <;> first | exact nc h | skip
        rename_i eo nm apos
        cases kw <;> first | exact nc h | skip
        obtain ⟨h1, g1⟩ := ba h
        obtain ⟨h0, g1⟩ := ba g1
        obtain ⟨h2, g2⟩ := ba g1
        obtain ⟨h3, g3⟩ := ba g2
        obtain ⟨h4, g4⟩ := ba g3
        obtain ⟨h5, h6⟩ := ba g4
        have hl : (apos.endLine == cpos.line) = true := by rw [of_decide_eq_true h4]; simp
        have pl := nostar_of h6
        by_cases hmi : m = .index
        · subst hmi
          cases as with
          | nil => exact nc h0
          | cons e1 as =>
            exact s_methT (of_decide_eq_true h1) ((sndB o).1 N sc d X bb EX _ c h5) (sndEs es N sc d X bb EX _ c h6) (base_of h3) (few_of pl (of_decide_eq_true h2)) hl (plain_star (pl _ List.mem_cons_self)) (star_back fun z hz => pl z (List.mem_cons_of_mem _ hz))
        cases as with
        | nil =>
          cases es <;> first | exact nc h6 | skip
          exact s_meth0 m hmi (of_decide_eq_true h1) ((sndB o).1 N sc d X bb EX _ c h5) (base_of h3) hl
        | cons e1 as => exact s_meth m hmi (of_decide_eq_true h1) ((sndB o).1 N sc d X bb EX _ c h5) (sndEs es N sc d X bb EX _ c h6) (base_of h3) (few_of pl (of_decide_eq_true h2)) hl (plain_star (pl _ List.mem_cons_self)) (star_back fun z hz => pl z (List.mem_cons_of_mem _ hz))
    · exact fun N sc d X bb EX e c h => nc h
  | .dnew => by
    refine ⟨?_, ?_, fun N sc d X bb EX op vs pos c h => nc h⟩
    · exact fun N sc d X bb EX e c h => by
        cases e <;> first | exact nc h | skip
        rename_i ks vs _
        cases ks <;> cases vs <;> first | exact nc h | exact s_dnew
    · exact fun N sc d X bb EX e c h => nc h
  | .dget o k0 x => by
    refine ⟨?_, ?_, fun N sc d X bb EX op vs pos c h => nc h⟩
    · exact fun N sc d X bb EX e c h => by
        cases e <;> first | exact nc h | skip
        rename_i fe as kw cpos
        cases fe <;> first | exact nc h | skip
        rename_i eo nm apos
        match as, kw, h with
        | [], _, h => exact nc h
        | [_], _, h => exact nc h
        | _ :: _ :: _ :: _, _, h => exact nc h
        | [_, _], _ :: _, h => exact nc h
        | [ek, ex], [], h =>
          obtain ⟨h1, g1⟩ := ba (show (decide (nm = ("get" : Str)) && (baseB eo && (decide (apos.endLine = cpos.line) && (chkE fn gn N sc d o eo && (chkE fn gn N sc d k0 ek && chkE fn gn N sc d x ex))))) = true from h)
          obtain ⟨h3, g3⟩ := ba g1
          obtain ⟨h4, g4⟩ := ba g3
          obtain ⟨h5, g5⟩ := ba g4
          obtain ⟨h6, h7⟩ := ba g5
          obtain rfl := of_decide_eq_true h1
          have hl : (apos.endLine == cpos.line) = true := by rw [of_decide_eq_true h4]; simp
          have pa := plain_of h6
          have pb := plain_of h7
          have pl : ∀ z ∈ [ek, ex], plainE z = true := fun z hz => by
            simp only [List.mem_cons, List.not_mem_nil, or_false] at hz
            rcases hz with rfl | rfl
            · exact pa
            · exact pb
          exact s_dget (hu64_of c) ((sndB o).1 N sc d X bb EX _ c h5) ((sndB k0).1 N sc d X bb EX _ c h6) ((sndB x).1 N sc d X bb EX _ c h7) ⟨base_of h3, few_of pl (by simp), hl, M2_trees pa pb⟩
    · exact fun N sc d X bb EX e c h => nc h
  | .ix a i => by
    have E : ∀ (N : List Str) (sc : Scope) (d : Bool) (X : Cx) (bb : BB) (EX : Ex) (e : Expr), Cok fn gn gls tb k N sc d X bb EX → chkE fn gn N sc d (.ix a i) e = true → PE X e (lfE bb X.K (wE gls (run gls tb k) EX (.ix a i))) := fun N sc d X bb EX e c h => by
      cases e <;> first | exact nc h | skip
      obtain ⟨h1, h2⟩ := ba h
      exact s_ix (hu64_of c) ((sndB a).1 N sc d X bb EX _ c h1) ((sndB i).1 N sc d X bb EX _ c h2) (plain_ix (plain_of h2))
    refine ⟨E, fun N sc d X bb EX e c h => ?_, fun N sc d X bb EX op vs pos c h => nc h⟩
    have q := E N sc d X bb EX e c h
    cases e <;> first | exact nc h | exact b_val q fun _ => rfl
  | .sl a lo hi => by
    refine ⟨?_, ?_, fun N sc d X bb EX op vs pos c h => nc h⟩
    · exact fun N sc d X bb EX e c h => by
        cases e <;> first | exact nc h | skip
        rename_i ea sl _
        cases sl <;> first | exact nc h | skip
        rename_i l u st _
        cases st <;> first | exact nc h | skip
        obtain ⟨h1, h2⟩ := ba h
        obtain ⟨h2, h3⟩ := ba h2
        exact s_sl ((sndB a).1 N sc d X bb EX _ c h1) (sndEo lo N sc d X bb EX _ c h2) (sndEo hi N sc d X bb EX _ c h3)
    · exact fun N sc d X bb EX e c h => nc h
  | .callk f es => by
    have E : ∀ (N : List Str) (sc : Scope) (d : Bool) (X : Cx) (bb : BB) (EX : Ex) (e : Expr), Cok fn gn gls tb k N sc d X bb EX → chkE fn gn N sc d (.callk f es) e = true → PE X e (lfE bb X.K (wE gls (run gls tb k) EX (.callk f es))) := fun N sc d X bb EX e c h => by
      cases e <;> first | exact nc h | skip
      rename_i fe as kw pos
      cases fe <;> first | exact nc h | skip
      rename_i x px
      cases as <;> cases kw <;> first | exact nc h | skip
      rename_i k1 kws
      obtain ⟨h1, g1⟩ := ba h
      obtain ⟨h2, g2⟩ := ba g1
      obtain ⟨h3, h4⟩ := ba g2
      split at h1
      · rename_i y ef
        obtain ⟨y, ps⟩ := y
        obtain ⟨h5, h6⟩ := ba h1
        obtain rfl : y = x := of_decide_eq_true h5
        obtain ⟨a, fd, hm, hk, _, hb, F⟩ := c.gb.fns f y ps ef
        obtain ⟨W, tk, xw⟩ := c.ex
        exact s_callk tk xw F c.room (c.gl h2) hm hk hb (sndKs es N sc d X bb EX (k1 :: kws) c h4) (of_decide_eq_true h6) (nm1 h3)
      · cases h1
    refine ⟨E, fun N sc d X bb EX e c h => ?_, fun N sc d X bb EX op vs pos c h => nc h⟩
    have q := E N sc d X bb EX e c h
    cases e <;> first | exact nc h | exact b_val q fun _ => rfl
  | .dlit k x => by
    refine ⟨?_, ?_, fun N sc d X bb EX op vs pos c h => nc h⟩
    · exact fun N sc d X bb EX e c h => by
        cases e <;> first | exact nc h | skip
        rename_i ks vs _
        cases ks <;> first | exact nc h | skip
        rename_i k0 ks
        cases k0 <;> first | exact nc h | skip
        cases ks <;> first | exact nc h | skip
        cases vs <;> first | exact nc h | skip
        rename_i v0 vs
        cases vs <;> first | exact nc h | skip
        obtain ⟨h1, h2⟩ := ba h
        exact s_dlit ((sndB k).1 N sc d X bb EX _ c h1) ((sndB x).1 N sc d X bb EX _ c h2)
    · exact fun N sc d X bb EX e c h => nc h
  | .lset a => by
    refine ⟨?_, ?_, fun N sc d X bb EX op vs pos c h => nc h⟩
    · exact fun N sc d X bb EX e c h => by
        cases e <;> first | exact nc h | skip
        rename_i fe as kw pos
        cases fe <;> first | exact nc h | skip
        rename_i x px
        cases as <;> first | exact nc h | skip
        rename_i e1 as
        cases e1 <;> first | exact nc h | skip
        rename_i fe2 as2 kw2 pos2
        cases fe2 <;> first | exact nc h | skip
        rename_i y py
        cases as2 <;> first | exact nc h | skip
        rename_i ea as2
        cases as2 <;> first | exact nc h | skip
        cases kw2 <;> first | exact nc h | skip
        cases as <;> first | exact nc h | skip
        cases kw <;> first | exact nc h | skip
        obtain ⟨h1, g⟩ := ba h
        obtain ⟨h2, g⟩ := ba g
        obtain ⟨h3, g⟩ := ba g
        obtain ⟨h4, h5⟩ := ba g
        obtain rfl := of_decide_eq_true h1
        obtain rfl := of_decide_eq_true h2
        exact s_lset c.calm (c.gl h3) (c.gb.blt _ (by decide +kernel)) (c.gl h4) (c.gb.blt _ (by decide +kernel)) ((sndB a).1 N sc d X bb EX _ c h5) (plain_star (plain_of h5))
    · exact fun N sc d X bb EX e c h => nc h
  | .rev a => by
    refine ⟨?_, ?_, fun N sc d X bb EX op vs pos c h => nc h⟩
    · exact fun N sc d X bb EX e c h => by
        cases e <;> first | exact nc h | skip
        rename_i ea sl _
        cases sl <;> first | exact nc h | skip
        rename_i l u st _
        cases l <;> cases u <;> cases st <;> first | exact nc h | skip
        rename_i st
        cases st <;> first | exact nc h | skip
        rename_i op ec _
        cases op <;> cases ec <;> first | exact nc h | skip
        rename_i cv _ _
        cases cv <;> first | exact nc h | skip
        obtain ⟨h1, h2⟩ := ba h
        obtain rfl := of_decide_eq_true h1
        exact s_rev ((sndB a).1 N sc d X bb EX _ c h2) (pe_imp (s_neg (s_cst (d := .int 1) (v := .int 1) pe_int fun _ _ => rd_int)) fun _ _ _ w => w)
    · exact fun N sc d X bb EX e c h => nc h
  | .callv i f g es => by
    refine ⟨?_, ?_, fun N sc d X bb EX op vs pos c h => nc h⟩
    · exact fun N sc d X bb EX e c h => by
        cases e <;> first | exact nc h | skip
        rename_i fe as kw pos
        cases fe <;> first | exact nc h | skip
        rename_i x px
        cases kw <;> cases as <;> first | exact nc h | skip
        obtain ⟨h1, h2⟩ := ba h
        obtain ⟨h2, h3⟩ := ba h2
        obtain ⟨h2, h5⟩ := ba h2
        obtain ⟨h3, h4⟩ := ba h3
        have pl := nostar_of h4
        split at h3
        · rename_i y z ef eg
          obtain rfl := of_decide_eq_true h3
          obtain ⟨y, ps⟩ := y
          obtain ⟨a, fd, hm, hk, hb, _, F⟩ := c.gb.fns f y ps ef
          refine s_callv F c.room hk hb (c.at_ h1) (c.vis h2) (sndEs es N sc d X bb EX _ c h4) (nm1 h5) (nm2 h5) (plain_star (pl _ List.mem_cons_self)) (star_back fun z hz => pl z (List.mem_cons_of_mem _ hz)) fun a' hb' => ?_
          split at hb'
          · rename_i b eb
            obtain rfl := of_decide_eq_true hb'
            obtain ⟨u, v, hm2, ru, rv⟩ := c.gb.cns g y _ eg eb
            cases (rv [] (fun _ => none)).fn_
            cases ru
            rw [hm] at hm2
            cases hm2
            rfl
          · cases hb'
        · cases h3
    · exact fun N sc d X bb EX e c h => nc h
  | .tup es => by
    refine ⟨?_, ?_, fun N sc d X bb EX op vs pos c h => nc h⟩
    · exact fun N sc d X bb EX e c h => by
        cases e <;> first | exact nc h | skip
        exact s_tup (sndEs es N sc d X bb EX _ c h)
    · exact fun N sc d X bb EX e c h => nc h
  | .lst es => by
    refine ⟨?_, ?_, fun N sc d X bb EX op vs pos c h => nc h⟩
    · exact fun N sc d X bb EX e c h => by
        cases e <;> first | exact nc h | skip
        exact s_lst (sndEs es N sc d X bb EX _ c h)
    · exact fun N sc d X bb EX e c h => nc h
  | .lc elt t it cd => by
    refine ⟨?_, ?_, fun N sc d X bb EX op vs pos c h => nc h⟩
    · exact fun N sc d X bb EX e c h => by
        cases e <;> first | exact nc h | skip
        rename_i el gs scope pos
        match gs, h with
        | [⟨tg, iter, ifs, asy⟩], h =>
          obtain ⟨hz, hI, hb, hG, hC, hE⟩ := lc_parts (show (decide (asy = 0) && (chkI fn gn N sc d it iter && (blkC N sc scope ((slotsOf t).map fun i => (N.getD i Str.empty, i)) && (chkGc fn gn N (relS scope sc) t tg && (chkC fn gn N (relS scope sc) false cd ifs && chkE fn gn N (relS scope sc) false elt el))))) = true from h)
          obtain rfl := of_decide_eq_true hz
          obtain ⟨g, og, hg, ok, ei⟩ := lc_goal gls tb c hb hG
          refine pe_imp (pe_lc (tt := lfT bb X.K (wC gls (run gls tb k) EX0 cd)) (te := lfE bb X.K (wE gls (run gls tb k) EX0 elt)) c.calm (by rw [c.hN]; exact c.nd) (sndI it N sc d X bb EX tg iter c hI).1 ok hg (fun s H C cl fp => sndC cd N _ false _ _ _ _ (blk_ok c ok.kind) hC) (fun s H C cl fp => (sndB elt).1 N _ false _ _ _ _ (blk_ok c ok.kind) hE) (sndI it N sc d X bb EX tg iter c hI).2) fun s H Q w => ?_
          rw [ei]
          exact lc_ok og w
        | [], h => exact nc h
        | ⟨_, _, _, _⟩ :: _ :: _, h => exact nc h
    · exact fun N sc d X bb EX e c h => nc h
theorem sndEs : ∀ (m : MEs) (N : List Str) (sc : Scope) (d : Bool) (X : Cx) (bb : BB) (EX : Ex) (es : List Expr), Cok fn gn gls tb k N sc d X bb EX → chkEs fn gn N sc d m es = true → PA X es (lfA bb X.K (wEs gls (run gls tb k) EX m))
  | .nil, N, sc, d, X, bb, EX, [], c, h => a_nil
  | .nil, N, sc, d, X, bb, EX, _ :: _, c, h => nc h
  | .cons m ms, N, sc, d, X, bb, EX, [], c, h => nc h
  | .cons m ms, N, sc, d, X, bb, EX, e :: es, c, h => by
    obtain ⟨h1, h2⟩ := ba (show (chkE fn gn N sc d m e && chkEs fn gn N sc d ms es) = true from h)
    exact a_cons ((sndB m).1 N sc d X bb EX e c h1) (sndEs ms N sc d X bb EX es c h2) (plain_star (plain_of h1))
theorem sndKs : ∀ (m : MEs) (N : List Str) (sc : Scope) (d : Bool) (X : Cx) (bb : BB) (EX : Ex) (es : List Keyword), Cok fn gn gls tb k N sc d X bb EX → chkEs fn gn N sc d m (es.map (·.value)) = true → PK X es (lfA bb X.K (wEs gls (run gls tb k) EX m))
  | .nil, N, sc, d, X, bb, EX, [], c, h => k_nil
  | .nil, N, sc, d, X, bb, EX, _ :: _, c, h => nc h
  | .cons m ms, N, sc, d, X, bb, EX, [], c, h => nc h
  | .cons m ms, N, sc, d, X, bb, EX, ⟨nm, e, kp⟩ :: es, c, h => by
    obtain ⟨h1, h2⟩ := ba (show (chkE fn gn N sc d m e && chkEs fn gn N sc d ms (es.map (·.value))) = true from h)
    exact k_cons ((sndB m).1 N sc d X bb EX e c h1) (sndKs ms N sc d X bb EX es c h2)
theorem sndEo : ∀ (m : MEo) (N : List Str) (sc : Scope) (d : Bool) (X : Cx) (bb : BB) (EX : Ex) (o : Option Expr), Cok fn gn gls tb k N sc d X bb EX → chkEo fn gn N sc d m o = true → PO X o (lfO bb X.K (wEo gls (run gls tb k) EX m))
  | .none, N, sc, d, X, bb, EX, none, c, h => o_none
  | .none, N, sc, d, X, bb, EX, some _, c, h => nc h
  | .some m, N, sc, d, X, bb, EX, none, c, h => nc h
  | .some m, N, sc, d, X, bb, EX, some e, c, h => o_some ((sndB m).1 N sc d X bb EX e c h)
theorem sndC : ∀ (m : MEo) (N : List Str) (sc : Scope) (d : Bool) (X : Cx) (bb : BB) (EX : Ex) (es : List Expr), Cok fn gn gls tb k N sc d X bb EX → chkC fn gn N sc d m es = true → PTs X es (lfT bb X.K (wC gls (run gls tb k) EX m))
  | .none, N, sc, d, X, bb, EX, [], c, h => pts_none
  | .none, N, sc, d, X, bb, EX, _ :: _, c, h => nc h
  | .some m, N, sc, d, X, bb, EX, [], c, h => nc h
  | .some m, N, sc, d, X, bb, EX, [e], c, h => pts_one ((sndB m).2.1 N sc d X bb EX e c h)
  | .some m, N, sc, d, X, bb, EX, _ :: _ :: _, c, h => nc h
theorem sndI : ∀ (m : MI) (N : List Str) (sc : Scope) (d : Bool) (X : Cx) (bb : BB) (EX : Ex) (tg e : Expr), Cok fn gn gls tb k N sc d X bb EX → chkI fn gn N sc d m e = true → PI X tg e (lfI bb X.K (wI gls (run gls tb k) EX m)) ∧ ∀ x, foldedSetIterable e X.env x = pure x
  | .seq m, N, sc, d, X, bb, EX, tg, e, c, h => ⟨i_seq ((sndB m).1 N sc d X bb EX e c h), plain_fold (plain_of (m := m) h)⟩
  | .rng1 a, N, sc, d, X, bb, EX, tg, e, c, h => by
    cases e <;> first | exact nc h | skip
    rename_i fe as kw pos
    cases fe <;> first | exact nc h | skip
    rename_i x px
    match as, h with
    | [], h => exact nc h
    | _ :: _ :: _, h => exact nc h
    | [ea], h =>
      cases kw <;> first | exact nc h | skip
      obtain ⟨h1, g1⟩ := ba (show (decide (x = ("range" : Str)) && (glB sc x && chkE fn gn N sc d a ea)) = true from h)
      obtain ⟨h2, h3⟩ := ba g1
      obtain rfl := of_decide_eq_true h1
      have st : starEach [ea] X.env = [(false, eval ea X.env)] := plain_star (plain_of h3)
      exact ⟨i_rng1 (c.gl h2) (c.gb.blt _ rng_in) ((sndB a).1 N sc d X bb EX _ c h3) st, fun _ => rfl⟩
  | .rng2 a b, N, sc, d, X, bb, EX, tg, e, c, h => by
    cases e <;> first | exact nc h | skip
    rename_i fe as kw pos
    cases fe <;> first | exact nc h | skip
    rename_i x px
    match as, h with
    | [], h => exact nc h
    | [_], h => exact nc h
    | _ :: _ :: _ :: _, h => exact nc h
    | [ea, eb], h =>
      cases kw <;> first | exact nc h | skip
      obtain ⟨h1, g1⟩ := ba (show (decide (x = ("range" : Str)) && (glB sc x && (chkE fn gn N sc d a ea && chkE fn gn N sc d b eb))) = true from h)
      obtain ⟨h2, g2⟩ := ba g1
      obtain ⟨h3, h4⟩ := ba g2
      obtain rfl := of_decide_eq_true h1
      have st2 : starEach [eb] X.env = [(false, eval eb X.env)] := plain_star (plain_of h4)
      have st : starEach [ea, eb] X.env = [(false, eval ea X.env), (false, eval eb X.env)] := by rw [plain_star (plain_of h3), st2]
      exact ⟨i_rng2 (c.gl h2) (c.gb.blt _ rng_in) ((sndB a).1 N sc d X bb EX _ c h3) ((sndB b).1 N sc d X bb EX _ c h4) st st2, fun _ => rfl⟩
end
end
end Mi

set_option Elab.async false
set_option linter.all false
set_option maxRecDepth 100000
set_option maxHeartbeats 4000000
namespace Mi
open PySem PySem.Spec PyProof.Rows L2
section
variable {fn : Fns} {gn : List Str} (gls : List D) (tb : List MF) {k : Nat}
theorem sndG : ∀ (m : MT) (N : List Str) (sc : Scope) (d : Bool) (X : Cx) (bb : BB) (EX : Ex) (e : Expr), Cok fn gn gls tb k N sc d X bb EX → chkG fn gn N sc d m e = true → PG X e (lfG bb X.K (wG gls (run gls tb k) EX m))
  | .name i, N, sc, d, X, bb, EX, e, c, h => by
    cases e <;> first | exact nc h | skip
    obtain ⟨h1, h2⟩ := ba h
    obtain ⟨l1, l2⟩ := c.loc h2
    exact g_name (pg_name (by rw [c.hN]; exact c.nd) (c.at_ h1) l1 l2)
  | .tup is, N, sc, d, X, bb, EX, e, c, h => by
    cases e <;> first | exact nc h | skip
    obtain ⟨q1, q2, q3⟩ := pgs_of c h
    exact g_tup c.calm q1 q2 q3
  | .sub a i, N, sc, d, X, bb, EX, e, c, h => by
    cases e <;> first | exact nc h | skip
    rename_i ea ei pos
    obtain ⟨h1, h2⟩ := ba (show (chkE fn gn N sc d a ea && chkE fn gn N sc d i ei) = true from h)
    refine g_sub (hu64_of c) ((sndB gls tb a).1 N sc d X bb EX _ c h1) ((sndB gls tb i).1 N sc d X bb EX _ c h2) fun v => ?_
    have hp := plain_of h2
    cases ei <;> first | rfl | exact nc hp
theorem sw_sole {e : Expr} {t : Expr} {l : Nat} {env : Env} (h : (match t with | .Name _ _ => false | _ => true) = true) : swapsWithSole [t] e l env = pure false := sw_other h
theorem st_none1 {e : Expr} {tg : Expr} {X : Cx} (h : (match tg with | .Tuple _ _ _ => false | .List _ _ => false | _ => true) = true) : swappedStores [tg] e X.env = pure none := by
  cases tg <;> first | exact nc h | rfl
def noTup : Expr → Bool
  | .Tuple _ _ _ => false
  | _ => true
theorem nt {b : Bool} (h : (!b) = true) : b = false := by cases b; rfl; cases h
theorem st_none2 {e : Expr} {ts : List Expr} {k1 : Nat} {p : Pos} {X : Cx} (h : noTup e = true) : swappedStores [.Tuple ts k1 p] e X.env = pure none := by
  cases e <;> first | exact nc h | rfl
theorem asg_of {t : MT} {m : ME} {N : List Str} {sc : Scope} {X : Cx} {bb : BB} {EX : Ex} {tg e : Expr} {pos : Pos} (c : Cok fn gn gls tb k N sc true X bb EX) (h1 : asgB sc tg e = true) (h2 : chkG fn gn N sc true t tg = true) (h3 : chkE fn gn N sc true m e = true) :
    PS X (.Assign [tg] e pos) (lfS bb X.K (wS gls (run gls tb k) EX (.asg t m))) := by
  have G := sndG gls tb t N sc true X bb EX tg c h2
  have V := (sndB gls tb m).1 N sc true X bb EX e c h3
  cases tg <;> first | exact nc h1 | skip
  · -- o[i]
    exact t_asg V G (sw_sole rfl) (st_none1 rfl) rfl
  · -- a name
    rename_i y py
    cases t <;> first | exact nc h2 | skip
    rename_i i
    obtain ⟨g1, g2⟩ := ba (show (decide (N[i]? = some y) && locB true sc y) = true from h2)
    obtain ⟨l1, l2⟩ := c.loc g2
    have nd : X.N.Nodup := by rw [c.hN]; exact c.nd
    by_cases hp : noComp e = true
    · exact t_set nd (c.at_ g1) l1 V (sw_plain hp) l2
    · cases e <;> first | exact absurd rfl hp | exact nc h1 | skip
      rename_i el gs scope lpos
      have h1' : (isK sc y .cell || (isK sc y .local && ((py.line == lpos.line) && !(scope.names.any fun (n, k) => n == y && (k == .local || k == .cell))))) = true := h1
      rw [Bool.or_eq_true] at h1'
      rcases h1' with z | z
      · exact t_set nd (c.at_ g1) l1 V (sw_cell (by rw [c.hsc]; exact of_decide_eq_true z)) l2
      · obtain ⟨z1, z2⟩ := ba z
        obtain ⟨z2, z3⟩ := ba z2
        have hy : X.env.scope.names.lookup y = some .local := by rw [c.hsc]; exact of_decide_eq_true z1
        cases m <;> first | exact nc h3 | skip
        rename_i elt t2 it cd
        match gs, h3 with
        | [], h => exact nc h
        | ⟨_, _, _, _⟩ :: _ :: _, h => exact nc h
        | [⟨tg, iter, ifs, asy⟩], h =>
          obtain ⟨hz, hI, hb, hG, hC, hE⟩ := lc_parts (show (decide (asy = 0) && (chkI fn gn N sc true it iter && (blkC N sc scope ((slotsOf t2).map fun i => (N.getD i Str.empty, i)) && (chkGc fn gn N (relS scope sc) t2 tg && (chkC fn gn N (relS scope sc) false cd ifs && chkE fn gn N (relS scope sc) false elt el))))) = true from h)
          obtain rfl := of_decide_eq_true hz
          obtain ⟨g, og, hg, ok, ei⟩ := lc_goal gls tb c hb hG
          have sw : swapsWith (.ListComp el [⟨tg, iter, ifs, 0⟩] scope lpos) (some (.Name y py)) pos.line X.env = pure true := sw_true (by rw [c.hsc]; exact c.kd) hy z2 (by simpa using z3)
          refine ps_imp (ps_setLc (tt := lfT bb X.K (wC gls (run gls tb k) EX0 cd)) (te := lfE bb X.K (wE gls (run gls tb k) EX0 elt)) c.calm nd (c.at_ g1) hy sw (sndI gls tb it N sc true X bb EX tg iter c hI).1 ok hg (fun s H C cl fp => sndC gls tb cd N _ false _ _ _ _ (blk_ok c ok.kind) hC) (fun s H C cl fp => (sndB gls tb elt).1 N _ false _ _ _ _ (blk_ok c ok.kind) hE) (sndI gls tb it N sc true X bb EX tg iter c hI).2) fun E s H w => ?_
          rw [ei]
          obtain ⟨loc, σ, hh, R, rs, rh, w, kk⟩ := w
          exact lc_ok og ⟨loc, σ, hh, _, rs, rh, w, fun dd h1 v H1 loc1 q1 x1 rh1 r1 => kk.nx _ _ _ _ loc1 q1 x1 rh1 ((rs.mono x1).set i r1)⟩
  · -- a tuple of names
    rename_i ts k1 tp
    by_cases ht : noTup e = true
    · exact t_asg V G (sw_sole rfl) (st_none2 ht) rfl
    · cases e <;> first | exact absurd rfl ht | skip
      rename_i vs k2 pt2
      cases t <;> first | exact nc h2 | skip
      rename_i is
      cases m <;> first | exact nc h3 | skip
      rename_i es
      match ts, vs, h1 with
      | [], _, h => exact nc h
      | [t1], _, h => cases t1 <;> exact nc h
      | t1 :: t2 :: _ :: _, _, h => cases t1 <;> first | exact nc h | (cases t2 <;> exact nc h)
      | [t1, t2], [], h => cases t1 <;> first | exact nc h | (cases t2 <;> exact nc h)
      | [t1, t2], [_], h => cases t1 <;> first | exact nc h | (cases t2 <;> exact nc h)
      | [t1, t2], _ :: _ :: _ :: _, h => cases t1 <;> first | exact nc h | (cases t2 <;> exact nc h)
      | [t1, t2], [a, b], h =>
        cases t1 <;> first | exact nc h | skip
        cases t2 <;> first | exact nc h | skip
        rename_i x px y py
        obtain ⟨a1, b1⟩ := ba (show (isK sc x .local && (isK sc y .local && ((py.line == px.line) && (!(x == y) && (!([a, b].all (foldedForSure 8)) && !([a, b].all (constantsAlone 8))))))) = true from h)
        obtain ⟨a2, b2⟩ := ba b1
        obtain ⟨a3, b3⟩ := ba b2
        obtain ⟨a4, b4⟩ := ba b3
        obtain ⟨a5, a6⟩ := ba b4
        match is, h2 with
        | [], h => exact nc h
        | [_], h =>
          have h' : chkNs N sc true [_] [Expr.Name x px, Expr.Name y py] = true := h
          obtain ⟨_, z⟩ := ba h'
          obtain ⟨_, z⟩ := ba z
          exact nc z
        | _ :: _ :: _ :: _, h =>
          have h' : chkNs N sc true (_ :: _ :: _ :: _) [Expr.Name x px, Expr.Name y py] = true := h
          obtain ⟨_, z⟩ := ba h'
          obtain ⟨_, z⟩ := ba z
          obtain ⟨_, z⟩ := ba z
          obtain ⟨_, z⟩ := ba z
          exact nc z
        | [i, j], h =>
          obtain ⟨q1, q2⟩ := ba (show (decide (N[i]? = some x) && (locB true sc x && (decide (N[j]? = some y) && (locB true sc y && true)))) = true from h)
          obtain ⟨_, q3⟩ := ba q2
          obtain ⟨q4, _⟩ := ba q3
          have hx : X.env.scope.names.lookup x = some .local := by rw [c.hsc]; exact of_decide_eq_true a1
          have hy : X.env.scope.names.lookup y = some .local := by rw [c.hsc]; exact of_decide_eq_true a2
          have nxy : (x == y) = false := by simpa using a4
          have hij : i ≠ j := by
            rintro rfl
            have e1 := of_decide_eq_true q1
            have e2 := of_decide_eq_true q4
            rw [e1] at e2
            cases e2
            simp at nxy
          have pl := nostar_of h3
          have pa := pl a List.mem_cons_self
          have pb := pl b (List.mem_cons_of_mem _ List.mem_cons_self)
          have nd : X.N.Nodup := by rw [c.hN]; exact c.nd
          refine ps_imp (t_par c.calm nd (c.at_ q1) (c.at_ q4) hij hx hy (sndEs gls tb es N sc true X bb EX _ c h3) (stores_swap (by rw [c.hsc]; exact c.kd) hx hy a3 nxy (ba pa).1 (ba pb).1 (nt a5) (nt a6)) rfl) fun E s H w => w
mutual
theorem sndS : ∀ (m : MS) (N : List Str) (sc : Scope) (X : Cx) (bb : BB) (EX : Ex) (s : Stmt), Cok fn gn gls tb k N sc true X bb EX → chkS fn gn N sc m s = true → PS X s (lfS bb X.K (wS gls (run gls tb k) EX m))
  | .expr m, N, sc, X, bb, EX, s, c, h => by
    cases s <;> first | exact nc h | skip
    obtain ⟨h1, h2⟩ := ba h
    exact t_expr ((sndB gls tb m).1 N sc true X bb EX _ c h2) (sw_plain h1)
  | .asg t m, N, sc, X, bb, EX, s, c, h => by
    cases s <;> first | exact nc h | skip
    rename_i tgs e pos
    match tgs, h with
    | [], h => exact nc h
    | _ :: _ :: _, h => exact nc h
    | [tg], h =>
      obtain ⟨h1, g1⟩ := ba (show (asgB sc tg e && (chkG fn gn N sc true t tg && chkE fn gn N sc true m e)) = true from h)
      obtain ⟨h2, h3⟩ := ba g1
      exact asg_of gls tb c h1 h2 h3
  | .aug i op m, N, sc, X, bb, EX, s, c, h => by
    cases s <;> first | exact nc h | skip
    rename_i tg o e pos
    cases tg <;> first | exact nc h | skip
    obtain ⟨h1, g1⟩ := ba h
    obtain ⟨h2, g2⟩ := ba g1
    obtain ⟨h3, h4⟩ := ba g2
    obtain rfl := of_decide_eq_true h1
    obtain ⟨l1, l2⟩ := c.loc h3
    exact t_aug op (by rw [c.hN]; exact c.nd) (c.at_ h2) l1 ((sndB gls tb m).1 N sc true X bb EX _ c h4) l2
  | .ret m, N, sc, X, bb, EX, s, c, h => by
    cases s <;> first | exact nc h | skip
    rename_i o _
    cases o <;> first | exact nc h | skip
    exact t_ret ((sndB gls tb m).1 N sc true X bb EX _ c h)
  | .retN, N, sc, X, bb, EX, s, c, h => by
    cases s <;> first | exact nc h | skip
    rename_i o _
    cases o <;> first | exact nc h | exact t_retN
  | .pass, N, sc, X, bb, EX, s, c, h => by
    cases s <;> first | exact nc h | exact t_pass
  | .brk, N, sc, X, bb, EX, s, c, h => by
    cases s <;> first | exact nc h | exact t_brk
  | .cnt, N, sc, X, bb, EX, s, c, h => by
    cases s <;> first | exact nc h | exact t_cnt
  | .ife t a b, N, sc, X, bb, EX, s, c, h => by
    cases s <;> first | exact nc h | skip
    obtain ⟨h1, g1⟩ := ba h
    obtain ⟨h2, h3⟩ := ba g1
    exact t_ife ((sndB gls tb t).2.1 N sc true X bb EX _ c h1) (sndBl a N sc X bb EX _ c h2) (sndBl b N sc X bb EX _ c h3)
  | .whl t b, N, sc, X, bb, EX, s, c, h => by
    cases s <;> first | exact nc h | skip
    rename_i e bd els pos
    cases els <;> first | exact nc h | skip
    obtain ⟨h1, h2⟩ := ba h
    exact t_whl c.po ((sndB gls tb t).2.1 N sc true X bb EX _ c h1) (sndBl b N sc X bb EX _ c h2)
  | .forr t it b, N, sc, X, bb, EX, s, c, h => by
    cases s <;> first | exact nc h | skip
    rename_i tg e bd els pos
    cases els <;> first | exact nc h | skip
    obtain ⟨h1, g1⟩ := ba h
    obtain ⟨h2, g2⟩ := ba g1
    obtain ⟨h3, h4⟩ := ba g2
    obtain ⟨I, hs⟩ := sndI gls tb it N sc true X bb EX tg e c h3
    exact t_for c.po c.calm I (sndG gls tb t N sc true X bb EX tg c h2) (sndBl b N sc X bb EX _ c h4) hs
  | .rse x fs es, N, sc, X, bb, EX, s, c, h => by
    cases s <;> first | exact nc h | skip
    rename_i eo co pos
    cases eo <;> first | exact nc h | skip
    rename_i ec
    cases ec <;> first | exact nc h | skip
    rename_i fe as kw cpos
    cases fe <;> first | exact nc h | skip
    rename_i x' px
    cases kw <;> cases as <;> cases co <;> first | exact nc h | skip
    rename_i e1 as
    obtain ⟨h1, g1⟩ := ba (show (decide (x = x') && (decide (fn.xs.lookup x = some fs) && (glB sc x && (nmB x && chkEs fn gn N sc true es (e1 :: as))))) = true from h)
    obtain ⟨h2, g2⟩ := ba g1
    obtain ⟨h3, g3⟩ := ba g2
    obtain ⟨h4, h5⟩ := ba g3
    obtain rfl := of_decide_eq_true h1
    obtain ⟨C, T⟩ := c.gb.exs x fs (of_decide_eq_true h2)
    obtain ⟨W, tk, xw⟩ := c.ex
    have pl := nostar_of h5
    exact t_rse c.calm tk xw T (c.room.mono (by omega)) (c.gl h3) (nm1 h4) (sndEs gls tb es N sc true X bb EX _ c h5) (plain_star (pl _ List.mem_cons_self)) (star_back fun z hz => pl z (List.mem_cons_of_mem _ hz))
  | .tr b y ys zs i he, N, sc, X, bb, EX, s, c, h => by
    cases s <;> first | exact nc h | skip
    rename_i body hds els fin pos
    cases hds <;> first | exact nc h | skip
    rename_i hd hds
    cases hd
    rename_i ty nm su pos'
    cases ty <;> first | exact nc h | skip
    rename_i ty
    cases ty <;> first | exact nc h | skip
    rename_i y' np
    cases su <;> first | exact nc h | skip
    rename_i st su
    cases st <;> first | exact nc h | skip
    rename_i e rp
    cases e <;> first | exact nc h | skip
    rename_i e
    cases su <;> first | exact nc h | skip
    cases hds <;> first | exact nc h | skip
    cases els <;> first | exact nc h | skip
    cases fin <;> first | exact nc h | skip
    · 
      obtain ⟨h1, g1⟩ := ba (show (decide (y = y') && (glB sc y && (nmB y && (slB N sc i nm && (heB nm (nsOf fn ys) he e && (!ys.isEmpty && (ys.all (fun x => (fn.xs.lookup x).isSome && fn.hs.any (fun q => strEq q.1 x && (strEq q.2.1 y && q.2.2))) && (zs.all (fun x => fn.hs.any (fun q => strEq q.1 x && (strEq q.2.1 y && !q.2.2))) && chkB fn gn N sc b body)))))))) = true from h)
      obtain ⟨h2, g2⟩ := ba g1
      obtain ⟨h3, g3⟩ := ba g2
      obtain ⟨h4, g4⟩ := ba g3
      obtain ⟨h5, g5⟩ := ba g4
      obtain ⟨h6, g6⟩ := ba g5
      obtain ⟨h7, g7⟩ := ba g6
      obtain ⟨h8, h9⟩ := ba g7
      obtain rfl := of_decide_eq_true h1
      obtain ⟨W, tk, xw⟩ := c.ex
      obtain ⟨s1, s2⟩ := c.stk rfl
      have hq : ∀ (x : Str) (bo : Bool), (fn.hs.any fun q => strEq q.1 x && (strEq q.2.1 y && (q.2.2 == bo))) = true → (x, y, bo) ∈ fn.hs := fun x bo z => by
        obtain ⟨q, hq, e⟩ := List.any_eq_true.mp z
        obtain ⟨q1, q2, q3⟩ := q
        obtain ⟨e1, e2⟩ := ba e
        obtain ⟨e2, e3⟩ := ba e2
        obtain rfl := strEq_iff.mp e1
        obtain rfl := strEq_iff.mp e2
        obtain rfl : q3 = bo := by simpa using e3
        exact hq
      have hy : ∀ x ∈ ys, (fn.xs.lookup x).isSome = true ∧ (x, y, true) ∈ fn.hs := fun x hx => by
        obtain ⟨z1, z2⟩ := ba (List.all_eq_true.mp h7 x hx)
        exact ⟨z1, hq x true (by simpa using z2)⟩
      have hz : ∀ x ∈ zs, (x, y, false) ∈ fn.hs := fun x hx => hq x false (by simpa using List.all_eq_true.mp h8 x hx)
      cases ys with
      | nil => cases h6
      | cons x0 yr =>
        obtain ⟨C0, cv, m1, m2, m3⟩ := c.gb.exm x0 y true (hy x0 List.mem_cons_self).2
        have HD : HdOk X cv (x0 :: yr) zs (nsOf fn (x0 :: yr)) := by
          refine ⟨fun x hx => ?_, fun x hx => ?_⟩
          · obtain ⟨z1, z2⟩ := hy x hx
            obtain ⟨C, cv2, q1, q2, q3⟩ := c.gb.exm x y true z2
            rw [m2] at q2
            cases q2
            obtain ⟨fs, efs⟩ := Option.isSome_iff_exists.mp z1
            obtain ⟨C2, T⟩ := c.gb.exs x fs efs
            have := T.gC
            rw [q1] at this
            cases this
            refine ⟨C, q1, q3, T.xf, fun n hn => T.no n ?_⟩
            have hn' : n ∈ ((fn.xs.lookup x0).getD []).filter (fun n => (x0 :: yr).all fun y => ((fn.xs.lookup y).getD []).any fun m => strEq n m) := hn
            have z := List.all_eq_true.mp (List.mem_filter.mp hn').2 x hx
            rw [efs] at z
            obtain ⟨m, hm, em⟩ := List.any_eq_true.mp z
            rw [strEq_iff.mp em]
            exact hm
          · obtain ⟨C, cv2, q1, q2, q3⟩ := c.gb.exm x y false (hz x hx)
            rw [m2] at q2
            cases q2
            exact ⟨C, q1, q3⟩
        have HB : ∀ (b1 : BB) (E1 : Ex) (W : WX) (pn : List (Addr × Obj)) (xe : Value → Shared → Prop), b1.n = bb.n → Takes (X.tr pn xe) W → XW X.K X.mg b1 E1 W → PassesOwn (model X.prog X.w) X.A X.env xe → PSs (X.tr pn xe) body (lfS b1 X.K (wB gls (run gls tb k) E1 b)) := fun b1 E1 W pn xe en tk xw po =>
          sndBl b N sc (X.tr pn xe) b1 E1 body ⟨c.calm, c.hN, c.nd, c.hsc, c.kd, c.fnc, c.room, en.trans c.bn, fun _ => ⟨s1, s2⟩, ⟨W, tk, xw⟩, po, c.gb⟩ h9
        have NM : Names X y cv := ⟨c.gl h2, nm1 h3, .inl m2⟩
        cases i with
        | none =>
          cases nm with
          | some _ => cases h4
          | none => exact t_tr0 (t := fun E1 => wB gls (run gls tb k) E1 b) s1 s2 NM tk xw HD h5 HB
        | some j =>
          cases nm with
          | none => cases h4
          | some n =>
            obtain ⟨n1, n2⟩ := ba (show (decide (N[j]? = some n) && (isK sc n .local && nmB n)) = true from h4)
            obtain ⟨n2, n3⟩ := ba n2
            have hl : X.env.scope.names.lookup n = some .local := by rw [c.hsc]; exact of_decide_eq_true n2
            exact t_tr1 (t := fun E1 => wB gls (run gls tb k) E1 b) s1 s2 (by rw [c.hN]; exact c.nd) (c.at_ n1) hl (.inl hl) (nm1 n3) (nm2 n3) (by rw [c.bn]; exact (List.getElem?_eq_some_iff.mp (of_decide_eq_true n1)).1) NM tk xw HD h5 HB
theorem sndBl : ∀ (m : MB) (N : List Str) (sc : Scope) (X : Cx) (bb : BB) (EX : Ex) (ss : List Stmt), Cok fn gn gls tb k N sc true X bb EX → chkB fn gn N sc m ss = true → PSs X ss (lfS bb X.K (wB gls (run gls tb k) EX m))
  | .nil, N, sc, X, bb, EX, [], c, h => b_nil
  | .nil, N, sc, X, bb, EX, _ :: _, c, h => nc h
  | .cons m ms, N, sc, X, bb, EX, [], c, h => nc h
  | .cons m ms, N, sc, X, bb, EX, s :: ss, c, h => by
    obtain ⟨h1, h2⟩ := ba (show (chkS fn gn N sc m s && chkB fn gn N sc ms ss) = true from h)
    have q := b_cons (sndS m N sc X bb EX s c h1) (sndBl ms N sc X bb EX ss c h2)
    exact q
end
end
end Mi

set_option Elab.async false
set_option linter.all false
set_option maxRecDepth 100000
set_option maxHeartbeats 1000000
/-! Mi: an error class of the program: its __init__ stores its parameters. -/
namespace Mi
open PySem PySem.Spec PyProof.Rows L2
/-- the text of such an __init__ -/
def iniB (N : List Str) (sc : Scope) : Nat → List Str → List Stmt → Bool
  | _, [], ss => (match ss with | [] => true | _ => false)
  | i, f :: fs, ss => (match ss with
    | .Assign [.Attribute (.Name s _) g _] (.Name y _) _ :: r => decide (N[0]? = some s) && (decide (N[i]? = some y) && (decide (g = f) && ((visB sc s && nmB s) && ((visB sc y && nmB y) && iniB N sc (i + 1) fs r))))
    | _ => false)
def tIr (K : PySem.W.Frag) (i : Nat) (fs : List Str) : TS := fun DD σ H => ∃ (a C dx : Addr) (acc : List (Str × V)) (ws : List V), σ[0]? = some (some (.ref a)) ∧ OexC K C ∧ H a = some (exo a C (some dx)) ∧ H dx = some (exd dx acc) ∧ dx ≠ a ∧ acc.length + fs.length ≤ 900 ∧ (∀ f ∈ fs, PySem.W.findIn K (.ref C) f = some none) ∧ ws.length = fs.length ∧
  (∀ (j : Nat) (w : V), ws[j]? = some w → σ[i + j]? = some (some w)) ∧ ∀ H', H' dx = some (exd dx ((fs.zip ws).reverse ++ acc)) → H' a = some (exo a C (some dx)) → (∀ b, b ≠ dx → b ≠ a → H' b = H b) → DD.nx σ H'
def tI0 (K : PySem.W.Frag) (fs : List Str) : TS := fun DD σ H => ∃ (a C : Addr) (ws : List V), σ[0]? = some (some (.ref a)) ∧ OexC K C ∧ H a = some (exo a C none) ∧ fs.length ≤ 90 ∧ (∀ f ∈ fs, PySem.W.findIn K (.ref C) f = some none) ∧ ws.length = fs.length ∧
  (∀ (j : Nat) (w : V), ws[j]? = some w → σ[1 + j]? = some (some w)) ∧ ∀ dx H', H dx = none → dx ≠ a → H' dx = some (exd dx (fs.zip ws).reverse) → H' a = some (exo a C (some dx)) → (∀ b, b ≠ dx → b ≠ a → H' b = H b) → DD.nx σ H'
section
variable {X : Cx} {N : List Str} {sc : Scope}
theorem vis_of {x : Str} (hsc : X.env.scope = sc) (h : visB sc x = true) : Vis X.env.scope x := by
  rw [hsc]
  unfold visB at h
  rw [Bool.or_eq_true, Bool.or_eq_true] at h
  rcases h with h | h | h
  · exact .inl (of_decide_eq_true h)
  · exact .inr (.inl (of_decide_eq_true h))
  · exact .inr (.inr (of_decide_eq_true h))
theorem ini_rest (hsc : X.env.scope = sc) (hN : X.N = N) : ∀ (fs : List Str) (i : Nat) (body : List Stmt), iniB N sc i fs body = true → PSs X body (tIr X.K i fs)
  | [], i, [], _ => pss_imp pss_nil fun DD s H ⟨a, C, dx, acc, ws, h0, T, ea, ed, hne, hl, no, lw, hw, k⟩ => by
    cases ws with
    | cons _ _ => cases lw
    | nil => exact k H (by simpa using ed) ea fun b _ _ => rfl
  | [], i, _ :: _, h => Bool.noConfusion (show false = true from h)
  | f :: fs, i, body, h => by
    cases body <;> first | exact Bool.noConfusion (show false = true from h) | skip
    rename_i st r
    cases st <;> first | exact Bool.noConfusion (show false = true from h) | skip
    rename_i tgs ev p4
    cases tgs <;> first | exact Bool.noConfusion (show false = true from h) | skip
    rename_i tg tgs
    cases tg <;> first | exact Bool.noConfusion (show false = true from h) | skip
    rename_i eo g p2
    cases eo <;> first | exact Bool.noConfusion (show false = true from h) | skip
    rename_i s' p1
    cases tgs <;> first | exact Bool.noConfusion (show false = true from h) | skip
    cases ev <;> first | exact Bool.noConfusion (show false = true from h) | skip
    rename_i y p3
    · 
      obtain ⟨h1, g1⟩ := ba (show (decide (N[0]? = some s') && (decide (N[i]? = some y) && (decide (g = f) && ((visB sc s' && nmB s') && ((visB sc y && nmB y) && iniB N sc (i + 1) fs r))))) = true from h)
      obtain ⟨h2, g2⟩ := ba g1
      obtain ⟨h3, g3⟩ := ba g2
      obtain ⟨h4, g4⟩ := ba g3
      obtain ⟨h5, h6⟩ := ba g4
      obtain ⟨a1, a2⟩ := ba h4
      obtain ⟨b1, b2⟩ := ba h5
      obtain rfl := of_decide_eq_true h3
      have ih := ini_rest hsc hN fs (i + 1) r h6
      refine pss_imp (pss_cons (ps_ost (pe_var (i := 0) (by rw [hN]; exact of_decide_eq_true h1) (vis_of hsc a1) (nm1 a2) (nm2 a2)) (pe_var (i := i) (by rw [hN]; exact of_decide_eq_true h2) (vis_of hsc b1) (nm1 b2) (nm2 b2)) rfl) ih) fun DD s H ⟨a, C, dx, acc, ws, h0, T, ea, ed, hne, hl, no, lw, hw, k⟩ => ?_
      cases ws with
      | nil => cases lw
      | cons w ws =>
        simp only [List.length_cons] at hl lw
        refine ⟨w, hw 0 w rfl, .ref a, h0, a, C, rfl, T, no _ List.mem_cons_self, .inr ⟨dx, acc, ea, ed, by omega, ?_⟩⟩
        refine ⟨a, C, dx, (g, w) :: acc, ws, h0, T, by rw [upd_ne (Ne.symm hne)]; exact ea, upd_same, hne, by simp only [List.length_cons]; omega, fun f hf => no f (List.mem_cons_of_mem _ hf), by omega, fun j v hv => ?_, fun H' e1 e2 e3 => ?_⟩
        · have := hw (j + 1) v (by simpa using hv)
          rw [show i + 1 + j = i + (j + 1) by omega]
          exact this
        · refine k H' (by rw [e1]; simp) e2 fun b hb hb2 => ?_
          rw [e3 b hb hb2, upd_ne hb]
theorem ini_all (hsc : X.env.scope = sc) (hN : X.N = N) : ∀ (fs : List Str) (body : List Stmt), fs ≠ [] → iniB N sc 1 fs body = true → PSs X body (tI0 X.K fs)
  | [], body, hne, _ => absurd rfl hne
  | f :: fs, body, _, h => by
    cases body <;> first | exact Bool.noConfusion (show false = true from h) | skip
    rename_i st r
    cases st <;> first | exact Bool.noConfusion (show false = true from h) | skip
    rename_i tgs ev p4
    cases tgs <;> first | exact Bool.noConfusion (show false = true from h) | skip
    rename_i tg tgs
    cases tg <;> first | exact Bool.noConfusion (show false = true from h) | skip
    rename_i eo g p2
    cases eo <;> first | exact Bool.noConfusion (show false = true from h) | skip
    rename_i s' p1
    cases tgs <;> first | exact Bool.noConfusion (show false = true from h) | skip
    cases ev <;> first | exact Bool.noConfusion (show false = true from h) | skip
    rename_i y p3
    · 
      obtain ⟨h1, g1⟩ := ba (show (decide (N[0]? = some s') && (decide (N[1]? = some y) && (decide (g = f) && ((visB sc s' && nmB s') && ((visB sc y && nmB y) && iniB N sc (1 + 1) fs r))))) = true from h)
      obtain ⟨h2, g2⟩ := ba g1
      obtain ⟨h3, g3⟩ := ba g2
      obtain ⟨h4, g4⟩ := ba g3
      obtain ⟨h5, h6⟩ := ba g4
      obtain ⟨a1, a2⟩ := ba h4
      obtain ⟨b1, b2⟩ := ba h5
      obtain rfl := of_decide_eq_true h3
      have ih := ini_rest hsc hN fs (1 + 1) r h6
      refine pss_imp (pss_cons (ps_ost (pe_var (i := 0) (by rw [hN]; exact of_decide_eq_true h1) (vis_of hsc a1) (nm1 a2) (nm2 a2)) (pe_var (i := 1) (by rw [hN]; exact of_decide_eq_true h2) (vis_of hsc b1) (nm1 b2) (nm2 b2)) rfl) ih) fun DD s H ⟨a, C, ws, h0, T, ea, hl, no, lw, hw, k⟩ => ?_
      cases ws with
      | nil => cases lw
      | cons w ws =>
        simp only [List.length_cons] at hl lw
        refine ⟨w, hw 0 w rfl, .ref a, h0, a, C, rfl, T, no _ List.mem_cons_self, .inl ⟨ea, fun dx hd hda => ?_⟩⟩
        refine ⟨a, C, dx, [(g, w)], ws, h0, T, upd_same, by rw [upd_ne hda]; exact upd_same, hda, by simp only [List.length_cons, List.length_nil]; omega, fun f hf => no f (List.mem_cons_of_mem _ hf), by omega, fun j v hv => ?_, fun H' e1 e2 e3 => ?_⟩
        · have := hw (j + 1) v (by simpa using hv)
          rw [show 1 + 1 + j = 1 + (j + 1) by omega]
          exact this
        · refine k dx H' hd hda (by rw [e1]; simp) e2 fun b hb hb2 => ?_
          rw [e3 b hb hb2, upd_ne hb2, upd_ne hb]
end
/-- an error class: its name, its __init__'s text, names, fields -/
structure XD where
  x : Str
  q : Str
  st : Stmt
  fs : List Str
def XD.N (d : XD) : List Str := "self" :: d.fs
def XD.dd (d : XD) : He.DefD := ⟨(d.x, some "__init__"), "__init__", d.q, defArgs d.st, defBody d.st, defScope d.st, [], []⟩
def excB (K : PySem.W.Frag) (C : Addr) : Bool := match K.lookup C with
  | some ⟨.type "type", _, .cls cd, sl⟩ => (match cd.mro, sl.toList with
    | .ref C' :: bm, [_, _, _, _, some (.builtin n), _] => C' == C && n == "ValueError.__new__" && !cd.hasDel && cd.hasDict && PySem.HandSPX.refsVE bm
    | _, _ => false)
  | _ => false
theorem excB_ok {K : PySem.W.Frag} {C : Addr} (q : excB K C = true) : ∃ nm q N bs bm sn sub ab col dd k0 k1 k2 k3 k5, K.lookup C = some (excClassObj nm q C N bs bm true sn sub ab col dd k0 k1 k2 k3 k5 "ValueError.__new__") ∧ PySem.HandSPX.refsVE bm = true := by
  unfold excB at q
  split at q
  · rename_i dd cd sl ho
    split at q
    · rename_i C' bm k0 k1 k2 k3 n k5 hm hs
      simp only [Bool.and_eq_true, beq_iff_eq, Bool.not_eq_true'] at q
      obtain ⟨⟨⟨⟨rfl, rfl⟩, hdel⟩, hdct⟩, ht⟩ := q
      obtain ⟨nm, bs, mro, ns, qn, hd, sn, sub, ab, col, del⟩ := cd
      dsimp only at hm hdel hdct
      subst hm hdel hdct
      have hsl : sl = #[k0, k1, k2, k3, some (.builtin "ValueError.__new__"), k5] := by
        obtain ⟨l⟩ := sl
        simp only at hs
        rw [hs]
      subst hsl
      exact ⟨nm, qn, ns, bs, bm, sn, sub, ab, col, dd, k0, k1, k2, k3, k5, ho, ht⟩
    · cases q
  · cases q
/-- what is looked at in the written part -/
def XD.okK (K : PySem.W.Frag) (d : XD) : Bool := (He.Fa.glo d.x).ok K && (excB K (He.ga K d.x) && (He.eqO (PySem.W.findIn K (.ref (He.ga K d.x)) "__setattr__") (some (some (.builtin "object.__setattr__"))) &&
  (decide (PySem.W.subIn K (.ref (He.ga K d.x)) (.type "BaseException") = some true) && (decide (PySem.W.typeIn K (.ref (He.ga K d.x)) = some (.type "type")) && (PySem.W.keepIn K (.ref (He.ga K d.x)) && (xfB K (He.ga K d.x) &&
  (d.fs.all (fun f => He.eqO (PySem.W.findIn K (.ref (He.ga K d.x)) f) (some none)) && (He.eqO (PySem.W.findIn K (.ref (He.ga K d.x)) "__init__") (some (some (.ref (He.ma K (He.ga K d.x) "__init__")))) && (decide (PySem.W.typeIn K (.ref (He.ma K (He.ga K d.x) "__init__")) = some (.type "function")) && d.dd.ok K)))))))))
end Mi

set_option Elab.async false
set_option linter.all false
set_option maxRecDepth 100000
set_option maxHeartbeats 4000000
/-! Mi: a program's defs, all at once; the head's facts; the law. -/
namespace Mi
open PySem PySem.Spec PyProof.Rows L2
theorem zip_look : ∀ {ps : List Str} {us : List Value} {x : Str}, us.length = ps.length → x ∈ ps → ((ps.zip us).lookup x).isNone = false
  | p :: ps, u :: us, x, e, h => by
    show (List.lookup x ((p, u) :: ps.zip us)).isNone = false
    rw [List.lookup_cons]
    by_cases c : (x == p) = true
    · rw [c]; rfl
    · have c' : (x == p) = false := by simpa using c
      rw [c']
      rcases List.mem_cons.mp h with rfl | h
      · simp at c
      · exact zip_look (by simpa using e) h
  | [], _, x, _, h => by cases h
  | _ :: _, [], _, e, _ => by cases e
theorem zip_map : ∀ {ps : List Str} {us : List Value}, us.length = ps.length → ps.Nodup → ps.filterMap (fun n => ((ps.zip us).lookup n).map (n, ·)) = ps.zip us
  | [], _, _, _ => rfl
  | _ :: _, [], e, _ => by cases e
  | p :: ps, u :: us, e, nd => by
    have h1 := (List.nodup_cons.mp nd).1
    have ih := zip_map (ps := ps) (us := us) (by simpa using e) (List.nodup_cons.mp nd).2
    rw [List.filterMap_cons]
    have e0 : Option.map (fun x => (p, x)) (List.lookup p ((p :: ps).zip (u :: us))) = some (p, u) := by simp
    rw [e0]
    show (p, u) :: _ = (p, u) :: ps.zip us
    congr 1
    have key : ∀ l : List Str, (∀ n ∈ l, n ≠ p) → l.filterMap (fun n => Option.map (fun x => (n, x)) (List.lookup n ((p :: ps).zip (u :: us)))) = l.filterMap (fun n => Option.map (fun x => (n, x)) (List.lookup n (ps.zip us))) := by
      intro l
      induction l with
      | nil => intro _; rfl
      | cons n l ihl =>
        intro hn
        have e1 : (n == p) = false := beq_eq_false_iff_ne.mpr (hn n List.mem_cons_self)
        rw [List.filterMap_cons, List.filterMap_cons, ihl fun m hm => hn m (List.mem_cons_of_mem _ hm)]
        simp only [List.zip_cons_cons, List.lookup_cons, e1]
    have := key ps fun n hn => by
      rintro rfl
      exact h1 hn
    rw [this, ih]
theorem bind_all {x qual : Str} {params : Arguments} {body : List Stmt} {scope : Scope} (kV doc pm : Value) (an : Option Addr) (cdv ct : Value) (us : List Value) (ps : List Str)
    (h1 : params.posonlyargs = []) (h2 : params.args.map (·.arg) = ps) (h3 : params.vararg = none) (h4 : params.kwonlyargs = []) (h5 : params.kwarg = none) (nd : ps.Nodup) (hl : us.length = ps.length) :
    bindArgs (PySem.W.fnOf x qual params body scope .none kV doc pm an cdv ct) ⟨us, []⟩ = pure (ps.zip us) := by
  obtain ⟨po, as, va, ko, kd, kw, df⟩ := params
  subst h1 h3 h4 h5 h2
  have hl : us.length = (as.map (·.arg)).length := hl
  have hm : (List.filter (fun n => (List.lookup n ((as.map (·.arg)).zip us)).isNone) (as.map (·.arg))) = [] := by
    rw [List.filter_eq_nil_iff]
    intro n hn
    rw [zip_look hl hn]
    exact Bool.false_ne_true
  have hz := zip_map hl nd
  have hl2 : us.length = as.length := by simpa using hl
  unfold bindArgs
  simp [PySem.W.fnOf, seqItems?, hl2]
  split
  · rename_i hc
    exfalso
    revert hc
    rw [show (#[] : Array Value).size = 0 from rfl, List.take_of_length_le (by simp)]
    simp only [List.map_nil, List.nil_append, hm]
    simp
  · have e1 : (notAStandIn Value.none : Sem Unit) = pure () := rfl
    rw [e1]
    have hz2 : List.filterMap ((fun n => Option.map (fun x => (n, x)) (List.lookup n ((List.map (fun x => x.arg) as).zip us))) ∘ fun x => x.arg) as = (List.map (fun x => x.arg) as).zip us := by
      rw [← List.filterMap_map]
      exact hz
    simp [hz2]

theorem forIn_kw {F : (Str × Value) → (List (Str × Value) × List (Str × Value)) → Sem (ForInStep (List (Str × Value) × List (Str × Value)))} :
    ∀ (l : List (Str × Value)) (s0 e0 : List (Str × Value)), (∀ x ∈ l, ∀ s : List (Str × Value) × List (Str × Value), (s.1.lookup x.1).isSome = false → F x s = pure (.yield (s.1 ++ [(x.1, x.2)], s.2))) → (l.map (·.1)).Nodup → (∀ x ∈ l, (s0.lookup x.1).isSome = false) →
      forIn l (s0, e0) F = pure (s0 ++ l, e0)
  | [], s0, e0, _, _, _ => by simp
  | x :: l, s0, e0, hF, nd, h0 => by
    rw [List.forIn_cons, hF x List.mem_cons_self _ (h0 x List.mem_cons_self)]
    simp only [pure_bind]
    obtain ⟨n1, n2⟩ := List.nodup_cons.mp (show (x.1 :: l.map (·.1)).Nodup from nd)
    rw [forIn_kw l (s0 ++ [(x.1, x.2)]) e0 (fun y hy => hF y (List.mem_cons_of_mem _ hy)) n2 fun y hy => ?_]
    · simp
    · have a := h0 y (List.mem_cons_of_mem _ hy)
      have b : y.1 ≠ x.1 := fun e => n1 (e ▸ List.mem_map_of_mem hy)
      have b2 : (y.1 == x.1) = false := beq_eq_false_iff_ne.mpr b
      rw [List.lookup_append]
      cases q : List.lookup y.1 s0 with
      | some _ => rw [q] at a; cases a
      | none => simp [List.lookup, b2]
theorem bind_kw {x qual : Str} {params : Arguments} {body : List Stmt} {scope : Scope} (kV doc pm : Value) (an : Option Addr) (cdv ct : Value) (us : List Value) (ps : List Str)
    (h1 : params.posonlyargs = []) (h2 : params.args.map (·.arg) = ps) (h3 : params.vararg = none) (h4 : params.kwonlyargs = []) (h5 : params.kwarg = none) (nd : ps.Nodup) (hl : us.length = ps.length) :
    bindArgs (PySem.W.fnOf x qual params body scope .none kV doc pm an cdv ct) ⟨[], ps.zip us⟩ = pure (ps.zip us) := by
  obtain ⟨po, as, va, ko, kd, kw, df⟩ := params
  subst h1 h3 h4 h5 h2
  have hl : us.length = (as.map (·.arg)).length := hl
  unfold bindArgs
  simp [PySem.W.fnOf, seqItems?]
  have hz := zip_map hl nd
  have hm : (List.filter (fun n => (List.lookup n ((as.map (·.arg)).zip us)).isNone) (as.map (·.arg))) = [] := by
    rw [List.filter_eq_nil_iff]
    intro n hn
    rw [zip_look hl hn]
    exact Bool.false_ne_true
  have hk : ((as.map (·.arg)).zip us).map (·.1) = as.map (·.arg) := List.map_fst_zip (by omega)
  rw [forIn_kw ((as.map (·.arg)).zip us) [] [] (fun x hx s hs => ?_) (by rw [hk]; exact nd) (fun x hx => rfl)]
  · simp only [pure_bind, List.nil_append]
    have e1 : (notAStandIn Value.none : Sem Unit) = pure () := rfl
    rw [e1]
    simp only [pure_bind]
    split
    · rename_i hc
      exfalso
      revert hc
      rw [show (#[] : Array Value).size = 0 from rfl, List.take_of_length_le (by simp)]
      simp only [List.map_nil, List.nil_append, hm]
      simp
    · have hz2 : List.filterMap ((fun n => Option.map (fun x => (n, x)) (List.lookup n ((List.map (fun x => x.arg) as).zip us))) ∘ fun x => x.arg) as = (List.map (fun x => x.arg) as).zip us := by
        rw [← List.filterMap_map]
        exact hz
      rw [hz2]
  · have : x.1 ∈ as.map (·.arg) := by rw [← hk]; exact List.mem_map_of_mem hx
    obtain ⟨a, ha, ea⟩ := List.mem_map.mp this
    rw [if_pos ⟨a, ha, ea⟩, if_neg (by rw [hs]; exact Bool.false_ne_true)]

/-! ### a program's defs -/
structure PD where
  x : Str
  st : Stmt
  N : List Str
  m : MF
def PD.ps (p : PD) : List Str := p.N.take p.m.np
def PD.dd (p : PD) : He.DefD := ⟨(p.x, none), p.x, p.x, defArgs p.st, defBody p.st, defScope p.st, [], []⟩
def scB (N : List Str) (np : Nat) (sc : Scope) : Bool := (match sc.kind with | .function => true | _ => false) && (!sc.isCoroutine && (!sc.isGenerator && (decide N.Nodup && (decide (np ≤ N.length) &&
  ((N.take np).all (fun x => isK sc x .local || isK sc x .cell) && sc.names.all fun y => (match y.2 with | .free => false | _ => true))))))
theorem scB_ok {N : List Str} {np : Nat} {sc : Scope} (h : scB N np sc = true) : FnScope N (N.take np) sc := by
  obtain ⟨h1, g1⟩ := ba h
  obtain ⟨h2, g2⟩ := ba g1
  obtain ⟨h3, g3⟩ := ba g2
  obtain ⟨h4, g4⟩ := ba g3
  obtain ⟨h5, g5⟩ := ba g4
  obtain ⟨h6, h7⟩ := ba g5
  refine ⟨?_, by simpa using h2, by simpa using h3, of_decide_eq_true h4, ?_, fun x hx => ?_, fun y hy e => ?_⟩
  · split at h1
    · assumption
    · cases h1
  · rw [List.length_take, Nat.min_eq_left (of_decide_eq_true h5)]
  · have q := List.all_eq_true.mp h6 x hx
    rw [Bool.or_eq_true] at q
    exact q.imp (fun z => of_decide_eq_true z) fun z => of_decide_eq_true z
  · have q := List.all_eq_true.mp h7 y hy
    rw [e] at q
    cases q
def arB (a : Arguments) (ps : List Str) : Bool := a.posonlyargs.isEmpty && (decide (a.args.map (·.arg) = ps) && (a.vararg.isNone && (a.kwonlyargs.isEmpty && a.kwarg.isNone)))
def PD.ok (fn : Fns) (gn : List Str) (p : PD) : Bool := scB p.N p.m.np (defScope p.st) && (arB (defArgs p.st) p.ps && (decide (p.m.ns = p.N.length) && chkB fn gn p.N (defScope p.st) p.m.body (defBody p.st)))
theorem PD.binds {K : PySem.W.Frag} {fn : Fns} {gn : List Str} {p : PD} (h : p.ok fn gn = true) {f : Addr} {fd : FuncData} (F : FunD K p.x p.x (defArgs p.st) (defBody p.st) (defScope p.st) [] [] f fd) : Binds K fd p.ps [] := by
  obtain ⟨h1, g1⟩ := ba h
  obtain ⟨h2, g2⟩ := ba g1
  obtain ⟨a1, b1⟩ := ba h2
  obtain ⟨a2, b2⟩ := ba b1
  obtain ⟨a3, b3⟩ := ba b2
  obtain ⟨a4, a5⟩ := ba b3
  have nd : p.ps.Nodup := (scB_ok h1).nd.sublist (List.take_sublist _ _)
  exact F.bindsN fun kV doc pm an cdv ct us hl => bind_all kV doc pm an cdv ct us p.ps (by simpa using a1) (of_decide_eq_true a2) (by simpa using a3) (by simpa using a4) (by simpa using a5) nd hl
theorem PD.bindsA {K : PySem.W.Frag} {fn : Fns} {gn : List Str} {p : PD} (h : p.ok fn gn = true) {f : Addr} {fd : FuncData} (F : FunD K p.x p.x (defArgs p.st) (defBody p.st) (defScope p.st) [] [] f fd) (s : Shared) (us : List Value) (hl : us.length = p.ps.length) : BindsTo s fd ⟨us, []⟩ (p.ps.zip us) := by
  obtain ⟨h1, g1⟩ := ba h
  obtain ⟨h2, g2⟩ := ba g1
  obtain ⟨a1, b1⟩ := ba h2
  obtain ⟨a2, b2⟩ := ba b1
  obtain ⟨a3, b3⟩ := ba b2
  obtain ⟨a4, a5⟩ := ba b3
  have nd : p.ps.Nodup := (scB_ok h1).nd.sublist (List.take_sublist _ _)
  exact F.bindsA (fun kV doc pm an cdv ct us hl => bind_all kV doc pm an cdv ct us p.ps (by simpa using a1) (of_decide_eq_true a2) (by simpa using a3) (by simpa using a4) (by simpa using a5) nd hl) s us hl
theorem PD.bindsK {K : PySem.W.Frag} {fn : Fns} {gn : List Str} {p : PD} (h : p.ok fn gn = true) {f : Addr} {fd : FuncData} (F : FunD K p.x p.x (defArgs p.st) (defBody p.st) (defScope p.st) [] [] f fd) (s : Shared) (us : List Value) (hl : us.length = p.ps.length) : BindsTo s fd ⟨[], p.ps.zip us⟩ (p.ps.zip us) := by
  obtain ⟨h1, g1⟩ := ba h
  obtain ⟨h2, g2⟩ := ba g1
  obtain ⟨a1, b1⟩ := ba h2
  obtain ⟨a2, b2⟩ := ba b1
  obtain ⟨a3, b3⟩ := ba b2
  obtain ⟨a4, a5⟩ := ba b3
  have nd : p.ps.Nodup := (scB_ok h1).nd.sublist (List.take_sublist _ _)
  obtain ⟨oc, od, dV, kV, doc, pm, an, cdv, ct, osl, rfl, lk, hcd, hD, hK⟩ := F.ex
  rcases hD with ⟨_, rfl⟩ | ⟨e, _⟩
  · exact .of_eq (bind_kw kV doc pm an cdv ct us p.ps (by simpa using a1) (of_decide_eq_true a2) (by simpa using a3) (by simpa using a4) (by simpa using a5) nd hl)
  · exact absurd rfl e
def fnsOf (ps : List PD) (xs : List XD := []) (hs : List (Str × Str × Bool) := []) : Fns := ⟨ps.map fun p => (p.x, p.ps), xs.map fun d => (d.x, d.fs), hs⟩
def XD.ok (d : XD) : Bool := scB d.N d.N.length (defScope d.st) && (arB (defArgs d.st) d.N && (iniB d.N (defScope d.st) 1 d.fs (defBody d.st) && (!d.fs.isEmpty && decide (d.fs.length ≤ 90))))
section
variable {P : Program} {w : World} {K : PySem.W.Frag} {mg : Str → Option Value} {base : Heap} {ps : List PD} {gn : List Str} {gls : List D} {xs : List XD} {hs : List (Str × Str × Bool)}
theorem rs_start {loc : List Addr} {H : Hp} {ds : List D} {vs : List V} {N : List Str} {ns np : Nat} (r : RDs K loc H ds vs) (hn : ns = N.length) (hp : ds.length = np) (hle : np ≤ N.length) : RS ⟨N.length, loc, H⟩ K loc H (ds.map some ++ List.replicate (ns - np) none) (L2.start N vs) := by
  have hl := r.length
  refine ⟨by unfold L2.start; simp [hl, hn]; omega, fun i d e => ?_, Xt.refl, by simp [hn]; omega⟩
  by_cases hi : i < ds.length
  · rw [List.getElem?_append_left (by simpa using hi), List.getElem?_map] at e
    cases g : ds[i]? with
    | none => rw [g] at e; cases e
    | some z =>
      rw [g] at e
      cases e
      obtain ⟨v, hv, rv⟩ := r.at_ g
      exact ⟨v, by unfold L2.start; rw [List.getElem?_append_left (by simp; omega), List.getElem?_map, hv]; rfl, rv⟩
  · rw [List.getElem?_append_right (by simpa using hi), List.getElem?_replicate] at e
    split at e <;> cases e
/-- what is known of an error class -/
structure XOk (K : PySem.W.Frag) (mg : Str → Option Value) (d : XD) : Prop where
  gC : mg d.x = some (.ref (He.ga K d.x))
  oe : OexC K (He.ga K d.x)
  xf : XfC K (He.ga K d.x)
  no : ∀ f ∈ d.fs, PySem.W.findIn K (.ref (He.ga K d.x)) f = some none
  iC : PySem.W.findIn K (.ref (He.ga K d.x)) "__init__" = some (some (.ref (He.ma K (He.ga K d.x) "__init__")))
  tC : PySem.W.typeIn K (.ref (He.ma K (He.ga K d.x) "__init__")) = some (.type "function")
  fn : ∃ fd, FunD K "__init__" d.q (defArgs d.st) (defBody d.st) (defScope d.st) [] [] (He.ma K (He.ga K d.x) "__init__") fd
/-- what is known of the program's top -/
structure Top (K : PySem.W.Frag) (mg : Str → Option Value) (ps : List PD) (gn : List Str) (gls : List D) (xs : List XD) (hs : List (Str × Str × Bool)) : Prop where
  blt : ∀ x ∈ bltNames, mg x = none
  fns : ∀ (f : Nat) (p : PD), ps[f]? = some p → ∃ a fd, mg p.x = some (.ref a) ∧ FunD K p.x p.x (defArgs p.st) (defBody p.st) (defScope p.st) [] [] a fd
  cns : ∀ (i : Nat) (x : Str) (d : D), gn[i]? = some x → gls[i]? = some d → ∃ u v, mg x = some u ∧ RelV v u ∧ ∀ loc H, RD K loc H d v
  exs : ∀ d ∈ xs, XOk K mg d
  exm : ∀ (x y : Str) (b : Bool), (x, y, b) ∈ hs → ∃ (C : Addr) (c : Value), mg x = some (.ref C) ∧ mg y = some c ∧ PySem.W.exmOne K (.ref C) c = some b
theorem xcls_of {d : XD} (h : d.ok = true) (T : XOk K mg d) : XCls P w K mg base d.x d.fs (He.ga K d.x) := by
  obtain ⟨h1, g1⟩ := ba h
  obtain ⟨h2, g2⟩ := ba g1
  obtain ⟨h3, g3⟩ := ba g2
  obtain ⟨h4, h5⟩ := ba g3
  obtain ⟨a1, b1⟩ := ba h2
  obtain ⟨a2, b2⟩ := ba b1
  obtain ⟨a3, b3⟩ := ba b2
  obtain ⟨a4, a5⟩ := ba b3
  have S := scB_ok h1
  rw [List.take_length] at S
  have nd : d.N.Nodup := S.nd
  obtain ⟨fd, F⟩ := T.fn
  have hne : d.fs ≠ [] := fun z => by rw [z] at h4; cases h4
  refine ⟨T.gC, T.oe, T.xf, T.no, of_decide_eq_true h5, _, fd, T.iC, T.tC, F.bindsN fun kV doc pm an cdv ct us hl => bind_all kV doc pm an cdv ct us d.N (by simpa using a1) (of_decide_eq_true a2) (by simpa using a3) (by simpa using a4) (by simpa using a5) nd hl, ?_⟩
  refine F.ok (N := d.N) S (fun vs H Q E ⟨a, C, ws, e, l, _⟩ => by rw [e]; simp [l]) fun cdv A outer s H vs Q E hr ⟨a, C, ws, e, l, oc, ea, no, q⟩ => ?_
  subst e
  refine ⟨_, ini_all (X := cxOf CX0 P w K mg base d.N d.q (defScope d.st) _ cdv A outer s H E) rfl rfl d.fs (defBody d.st) hne h3, a, C, ws, rfl, oc, ea, of_decide_eq_true h5, no, l, fun j v hv => ?_, fun dx H' e1 e2 e3 e4 e5 => q dx H' e1 e2 e3 e4 e5⟩
  unfold L2.start
  have hj : j < ws.length := (List.getElem?_eq_some_iff.mp hv).1
  rw [List.getElem?_append_left (by simp; omega), List.getElem?_map, show 1 + j = j + 1 by omega, List.getElem?_cons_succ, hv]
  rfl
theorem gok_of {tb : List MF} {k : Nat} (T : Top K mg ps gn gls xs hs) (h : ∀ p ∈ ps, p.ok (fnsOf ps xs hs) gn = true) (hx : ∀ d ∈ xs, d.ok = true)
    (F : ∀ (f : Nat) (p : PD) (a : Addr) (fd : FuncData), ps[f]? = some p → FunD K p.x p.x (defArgs p.st) (defBody p.st) (defScope p.st) [] [] a fd → FnOk P w K mg base (L2.CX P w) (k + 2) a fd p.ps (lfP K mg (run gls tb k f))) : Gok (fnsOf ps xs hs) gn gls tb P w K mg base k := by
  refine ⟨T.blt, fun f x pp e => ?_, T.cns, fun x fs e => ?_, T.exm⟩
  · have e : (ps.map fun p => (p.x, p.ps))[f]? = some (x, pp) := e
    rw [List.getElem?_map] at e
    cases g : ps[f]? with
    | none => rw [g] at e; cases e
    | some p =>
      rw [g] at e
      cases e
      obtain ⟨a, fd, hm, D⟩ := T.fns f p g
      exact ⟨a, fd, hm, D.kp, PD.binds (h p (List.mem_of_getElem? g)) D, PD.bindsK (h p (List.mem_of_getElem? g)) D, F f p a fd g D⟩
  · have m := PySem.mem_of_lookup (show (xs.map fun d => (d.x, d.fs)).lookup x = some fs from e)
    obtain ⟨d, hd, ed⟩ := List.mem_map.mp m
    cases ed
    exact ⟨_, xcls_of (hx d hd) (T.exs d hd)⟩
theorem run_un {f k : Nat} {p : PD} (gm : (ps.map (·.m))[f]? = some p.m) {ds : List D} {h : Hh} {Q : Kd} {E : Ex} (z : run gls (ps.map (·.m)) (k + 1) f ds h Q E) : ds.length = p.m.np ∧ wB gls (run gls (ps.map (·.m)) k) E p.m.body { nx := fun _ h' => Q .non h', rt := Q, bk := fun _ _ => False, ct := fun _ _ => False } (ds.map some ++ List.replicate (p.m.ns - p.m.np) none) h := by
  unfold run at z
  rw [gm] at z
  obtain ⟨c, z⟩ := chk_e z
  exact ⟨of_decide_eq_true c, z⟩
theorem fn_ok (T : Top K mg ps gn gls xs hs) (h : ∀ p ∈ ps, p.ok (fnsOf ps xs hs) gn = true) (hx : ∀ d ∈ xs, d.ok = true) : ∀ (k f : Nat) (p : PD) (a : Addr) (fd : FuncData), ps[f]? = some p → FunD K p.x p.x (defArgs p.st) (defBody p.st) (defScope p.st) [] [] a fd → FnOk P w K mg base (L2.CX P w) (k + 2) a fd p.ps (lfP K mg (run gls (ps.map (·.m)) k f))
  | 0, f, p, a, fd, g, F => by
    have no : ∀ vs H Q E, ¬ lfP K mg (run gls (ps.map (·.m)) 0 f) vs H Q E := fun vs H Q E ⟨_, _, _, _, _, _, _, z, _⟩ => z
    exact ⟨fun vs H Q E z => absurd z (no vs H Q E), fun A outer s H args us vs Q E _ _ _ _ z => absurd z (no vs H Q E)⟩
  | k + 1, f, p, a, fd, g, F => by
    have ih := gok_of (P := P) (w := w) (base := base) T h hx (fn_ok T h hx k)
    have hok := h p (List.mem_of_getElem? g)
    obtain ⟨h1, g1⟩ := ba hok
    obtain ⟨h2, g2⟩ := ba g1
    obtain ⟨h3, h4⟩ := ba g2
    have S := scB_ok h1
    have hle : p.m.np ≤ p.N.length := by
      obtain ⟨_, z1⟩ := ba h1
      obtain ⟨_, z2⟩ := ba z1
      obtain ⟨_, z3⟩ := ba z2
      obtain ⟨_, z4⟩ := ba z3
      obtain ⟨z5, _⟩ := ba z4
      exact of_decide_eq_true z5
    have gm : (ps.map (·.m))[f]? = some p.m := by rw [List.getElem?_map, g]; rfl
    refine F.ok S (fun vs H Q E ⟨loc, ds, hh, Q', X', r, _, z, _⟩ => ?_) fun cdv A outer s H vs Q E hr ⟨loc, ds, hh, Q', X', r, rh, z, kk, kx⟩ => ?_
    · obtain ⟨e1, _⟩ := run_un gm z
      rw [r.length, e1]
      unfold PD.ps
      rw [List.length_take, Nat.min_eq_left hle]
    · obtain ⟨e1, z⟩ := run_un gm z
      have C : Cok (fnsOf ps xs hs) gn gls (ps.map (·.m)) k p.N (defScope p.st) true (cxOf (L2.CX P w) P w K mg base p.N p.x (defScope p.st) a cdv A outer s H E) ⟨p.N.length, loc, H⟩ X' :=
        ⟨rfl, rfl, S.nd, rfl, S.kind, fun _ _ => rfl, hr, rfl, fun _ => ⟨rfl, rfl⟩, ⟨_, takes_of rfl rfl rfl rfl, fun σ _ x kvs h' H1 loc' d C xd q m xt rh rx hd => kx x kvs h' H1 loc' d C xd q m xt rh rx hd⟩, passes_of rfl, ih⟩
      have B := sndBl gls (ps.map (·.m)) p.m.body p.N (defScope p.st) _ _ _ (defBody p.st) C h4
      exact ⟨_, B, loc, _, hh, _, rs_start r (of_decide_eq_true h3) e1 hle, rh, z, ⟨fun σ' h' s' H' loc' q x rh' rs' => kk _ _ _ _ loc' q x rh' rd_non, kk, fun _ _ _ _ _ q => q.elim, fun _ _ _ _ _ q => q.elim⟩⟩
/-- the law's def: nothing leaves it -/
def lfP0 (K : PySem.W.Frag) (C : List D → Hh → Kd → Ex → Prop) : Sp := fun vs H Q _ => ∃ loc ds h Q', RDs K loc H ds vs ∧ RH K loc H h ∧ C ds h Q' EX0 ∧ Kx K loc H Q' Q
theorem fn_ok0 (T : Top K mg ps gn gls xs hs) (h : ∀ p ∈ ps, p.ok (fnsOf ps xs hs) gn = true) (hx : ∀ d ∈ xs, d.ok = true) : ∀ (k f : Nat) (p : PD) (a : Addr) (fd : FuncData), ps[f]? = some p → FunD K p.x p.x (defArgs p.st) (defBody p.st) (defScope p.st) [] [] a fd → FnOk P w K mg base CX0 (k + 2) a fd p.ps (lfP0 K (run gls (ps.map (·.m)) k f))
  | 0, f, p, a, fd, g, F => by
    have no : ∀ vs H Q E, ¬ lfP0 K (run gls (ps.map (·.m)) 0 f) vs H Q E := fun vs H Q E ⟨_, _, _, _, _, _, z, _⟩ => z
    exact ⟨fun vs H Q E z => absurd z (no vs H Q E), fun A outer s H args us vs Q E _ _ _ _ z => absurd z (no vs H Q E)⟩
  | k + 1, f, p, a, fd, g, F => by
    have ih := gok_of (P := P) (w := w) (base := base) T h hx (fn_ok T h hx k)
    have hok := h p (List.mem_of_getElem? g)
    obtain ⟨h1, g1⟩ := ba hok
    obtain ⟨h2, g2⟩ := ba g1
    obtain ⟨h3, h4⟩ := ba g2
    have S := scB_ok h1
    have hle : p.m.np ≤ p.N.length := by
      obtain ⟨_, z1⟩ := ba h1
      obtain ⟨_, z2⟩ := ba z1
      obtain ⟨_, z3⟩ := ba z2
      obtain ⟨_, z4⟩ := ba z3
      obtain ⟨z5, _⟩ := ba z4
      exact of_decide_eq_true z5
    have gm : (ps.map (·.m))[f]? = some p.m := by rw [List.getElem?_map, g]; rfl
    refine F.ok S (fun vs H Q E ⟨loc, ds, hh, Q', r, _, z, _⟩ => ?_) fun cdv A outer s H vs Q E hr ⟨loc, ds, hh, Q', r, rh, z, kk⟩ => ?_
    · obtain ⟨e1, _⟩ := run_un gm z
      rw [r.length, e1]
      unfold PD.ps
      rw [List.length_take, Nat.min_eq_left hle]
    · obtain ⟨e1, z⟩ := run_un gm z
      have C : Cok (fnsOf ps xs hs) gn gls (ps.map (·.m)) k p.N (defScope p.st) true (cxOf CX0 P w K mg base p.N p.x (defScope p.st) a cdv A outer s H E).nox ⟨p.N.length, loc, H⟩ EX0 :=
        ⟨rfl, rfl, S.nd, rfl, S.kind, fun _ _ => rfl, hr, rfl, fun _ => ⟨rfl, rfl⟩, ⟨_, takesN, fun _ _ _ _ _ _ _ _ _ _ z => z.elim⟩, PassesOwn.never, ih⟩
      have B := sndBl gls (ps.map (·.m)) p.m.body p.N (defScope p.st) _ _ _ (defBody p.st) C h4
      exact ⟨_, B.nox, loc, _, hh, _, rs_start r (of_decide_eq_true h3) e1 hle, rh, z, ⟨fun σ' h' s' H' loc' q x rh' rs' => kk _ _ _ _ loc' q x rh' rd_non, kk, fun _ _ _ _ _ q => q.elim, fun _ _ _ _ _ q => q.elim⟩⟩
end

/-! ### the head's facts -/
mutual
def valB (K : PySem.W.Frag) : D → Value → Bool
  | .non, u => (match u with | .none => true | _ => false)
  | .bl b, u => (match u with | .bool c => decide (b = c) | _ => false)
  | .int i, u => (match u with | .int j _ => decide (i = j) | _ => false)
  | .str x, u => (match u with | .str y _ => decide (x = y) | _ => false)
  | .tup ds, u => (match u with
    | .ref a => (match K.lookup a with
      | some ⟨.type c, od, .seq its _, _⟩ => od.isNone && (decide (c = "tuple") && (decide (its.size ≤ sizeLine) && valsB K ds its.toList))
      | _ => false)
    | _ => false)
  | .ref _, _ => false
  | .fn _, _ => false
def valsB (K : PySem.W.Frag) : List D → List Value → Bool
  | [], us => us.isEmpty
  | d :: ds, us => (match us with
    | u :: us => valB K d u && valsB K ds us
    | [] => false)
end
mutual
theorem valB_ok {K : PySem.W.Frag} : ∀ (d : D) (u : Value), valB K d u = true → ∃ v, RelV v u ∧ ∀ loc H, RD K loc H d v
  | .non, u, h => by
    cases u <;> first | exact nc h | exact ⟨.non, rfl, fun _ _ => rd_non⟩
  | .bl b, u, h => by
    cases u <;> first | exact nc h | skip
    obtain rfl := of_decide_eq_true h
    exact ⟨.bl b, rfl, fun _ _ => rd_bl⟩
  | .int i, u, h => by
    cases u <;> first | exact nc h | skip
    obtain rfl := of_decide_eq_true h
    exact ⟨.int i, ⟨_, rfl⟩, fun _ _ => rd_int⟩
  | .str x, u, h => by
    cases u <;> first | exact nc h | skip
    obtain rfl := of_decide_eq_true h
    exact ⟨.str x, ⟨_, rfl⟩, fun _ _ => rd_str⟩
  | .tup ds, u, h => by
    cases u <;> first | exact nc h | skip
    rename_i a
    have h' : (match K.lookup a with
      | some ⟨.type c, od, .seq its _, _⟩ => od.isNone && (decide (c = "tuple") && (decide (its.size ≤ sizeLine) && valsB K ds its.toList))
      | _ => false) = true := h
    split at h'
    · rename_i c od its n sl e
      obtain ⟨h0, g0⟩ := ba h'
      obtain ⟨h1, g1⟩ := ba g0
      obtain ⟨h2, h3⟩ := ba g1
      obtain ⟨vs, rv, q⟩ := valsB_ok ds its.toList h3
      exact ⟨.ref a, rfl, fun loc H => rd_tup (.inr ⟨_, its, n, e, congrArg Value.type (of_decide_eq_true h1), rfl, of_decide_eq_true h2, rv⟩) (.inr ⟨_, e, Option.isNone_iff_eq_none.mp h0⟩) (q loc H)⟩
    · exact nc h'
  | .ref _, _, h => nc h
  | .fn _, _, h => nc h
theorem valsB_ok {K : PySem.W.Frag} : ∀ (ds : List D) (us : List Value), valsB K ds us = true → ∃ vs, Vals vs us ∧ ∀ loc H, RDs K loc H ds vs
  | [], [], _ => ⟨[], .nil, fun _ _ => RDs.nil⟩
  | [], _ :: _, h => nc h
  | _ :: _, [], h => nc h
  | d :: ds, u :: us, h => by
    obtain ⟨h1, h2⟩ := ba (show (valB K d u && valsB K ds us) = true from h)
    obtain ⟨v, r, q⟩ := valB_ok d u h1
    obtain ⟨vs, rs, qs⟩ := valsB_ok ds us h2
    exact ⟨v :: vs, .cons r rs, fun loc H => RDs.cons (q loc H) (qs loc H)⟩
end
def cnB (K : PySem.W.Frag) (x : Str) (d : D) : Bool := match PySem.W.nsIn K mainGlobals x with
  | some (some u) => valB K d u
  | _ => false
def hsB (K : PySem.W.Frag) (q : Str × Str × Bool) : Bool := (He.Fa.glo q.1).ok K && ((He.Fa.glo q.2.1).ok K && decide (PySem.W.exmOne K (.ref (He.ga K q.1)) (.ref (He.ga K q.2.1)) = some q.2.2))
def obsM (cs : List (Str × D)) (ps : List PD) (xs : List XD) (hs : List (Str × Str × Bool)) (K : PySem.W.Frag) : He.AlD := ((bltNames.all fun x => He.eqO (PySem.W.nsIn K mainGlobals x) (some none)) && ((cs.all fun c => cnB K c.1 c.2) && ((ps.all fun p => (He.Fa.glo p.x).ok K && p.dd.ok K) && (xs.all (XD.okK K) && hs.all (hsB K)))), (ps.map fun p => He.fnW K (p.x, none)) ++ xs.map fun d => He.fnW K d.dd.at_)
def valM (ps : List PD) (xs : List XD) : He.AlD := (true, (ps.map fun p => p.dd.val) ++ xs.map fun d => d.dd.val)
def SaysM (cs : List (Str × D)) (ps : List PD) (xs : List XD) (hs : List (Str × Str × Bool)) (K : PySem.W.Frag) : Prop := obsM cs ps xs hs K = valM ps xs
def obsMG (n : Nat) (cs : List (Str × D)) (ps : List PD) (g : Addr → Option Obj) (xs : List XD := []) (hs : List (Str × Str × Bool) := []) : He.AlD := obsM cs ps xs hs (He.frG g (He.asD g n))
def hookM (n : Nat) (cs : List (Str × D)) (ps : List PD) (xs : List XD := []) (hs : List (Str × Str × Bool) := []) : PySem.W.Hook where
  α := He.AlD
  obs := fun s => obsMG n cs ps s.heap.get? xs hs
  val := fun _ => valM ps xs
  says := fun _ h => ∃ K : PySem.W.Frag, K.In h ∧ SaysM cs ps xs hs K
  of := fun _ _ e => ⟨_, He.frG_in, e⟩
  keeps := fun _ _ _ ⟨K, hK, c⟩ k => ⟨K, PySem.W.Frag.In.keeps hK k, c⟩
theorem obsMG_eq {n : Nat} {cs : List (Str × D)} {ps : List PD} {xs : List XD} {hs : List (Str × Str × Bool)} {g : Addr → Option Obj} {s : Shared} (h : ∀ a, g a = s.heap.get? a) : obsMG n cs ps g xs hs = (hookM n cs ps xs hs).obs s := by
  have e : g = s.heap.get? := funext h
  rw [e] <;> rfl
theorem top_of {cs : List (Str × D)} {ps : List PD} {xs : List XD} {hs : List (Str × Str × Bool)} {K : PySem.W.Frag} {h : Heap} {mg : Str → Option Value} (X : K.In h) (G : h.Ns mainGlobals mg) (c : SaysM cs ps xs hs K) : Top K mg ps (cs.map (·.1)) (cs.map (·.2)) xs hs := by
  have c1 := congrArg (fun z : He.AlD => z.1) c
  have c2 : (ps.map fun p => He.fnW K (p.x, none)) ++ (xs.map fun d => He.fnW K d.dd.at_) = (ps.map fun p => p.dd.val) ++ xs.map fun d => d.dd.val := congrArg (fun z : He.AlD => z.2) c
  obtain ⟨c3, c4⟩ := List.append_inj c2 (by simp)
  obtain ⟨b1, g1⟩ := ba (show ((bltNames.all fun x => He.eqO (PySem.W.nsIn K mainGlobals x) (some none)) && ((cs.all fun c => cnB K c.1 c.2) && ((ps.all fun p => (He.Fa.glo p.x).ok K && p.dd.ok K) && (xs.all (XD.okK K) && hs.all (hsB K))))) = true from c1)
  obtain ⟨b2, g2⟩ := ba g1
  obtain ⟨b3, g3⟩ := ba g2
  obtain ⟨b4, b5⟩ := ba g3
  refine ⟨fun x hx => PySem.W.mg_none_of X G (He.eqO_ok (List.all_eq_true.mp b1 x hx)), fun f p e => ?_, fun i x d e1 e2 => ?_, fun d hd => ?_, fun x y b hb => ?_⟩
  · obtain ⟨q1, q2⟩ := ba (List.all_eq_true.mp b3 p (List.mem_of_getElem? e))
    have e3 : He.fnW K (p.x, none) = p.dd.val := by
      have := congrArg (fun l => l[f]?) c3
      simpa [e] using this
    obtain ⟨fd, F⟩ := He.DefD.funD (d := p.dd) e3 q2
    exact ⟨_, fd, He.glo_ok X G q1, F⟩
  · rw [List.getElem?_map] at e1 e2
    cases g : cs[i]? with
    | none => rw [g] at e1; cases e1
    | some cc =>
      rw [g] at e1 e2
      cases e1
      cases e2
      have q := List.all_eq_true.mp b2 cc (List.mem_of_getElem? g)
      unfold cnB at q
      split at q
      · rename_i u eu
        obtain ⟨v, r, rd⟩ := valB_ok cc.2 u q
        exact ⟨u, v, PySem.W.mg_of X G eu, r, rd⟩
      · exact nc q
  · have q := List.all_eq_true.mp b4 d hd
    obtain ⟨f, ef⟩ := List.getElem?_of_mem hd
    have e3 : He.fnW K d.dd.at_ = d.dd.val := by
      have := congrArg (fun l => l[f]?) c4
      simpa [ef] using this
    unfold XD.okK at q
    obtain ⟨q1, q⟩ := ba q
    obtain ⟨q2, q⟩ := ba q
    obtain ⟨q3, q⟩ := ba q
    obtain ⟨q4, q⟩ := ba q
    obtain ⟨q5, q⟩ := ba q
    obtain ⟨q6, q⟩ := ba q
    obtain ⟨q7, q⟩ := ba q
    obtain ⟨q8, q⟩ := ba q
    obtain ⟨q9, q⟩ := ba q
    obtain ⟨q10, q11⟩ := ba q
    obtain ⟨fd, F⟩ := He.DefD.funD (d := d.dd) e3 q11
    exact ⟨He.glo_ok X G q1, ⟨excB_ok q2, He.eqO_ok q3, of_decide_eq_true q4, of_decide_eq_true q5, q6⟩, xfB_ok q7, fun f hf => He.eqO_ok (List.all_eq_true.mp q8 f hf), He.eqO_ok q9, of_decide_eq_true q10, fd, F⟩
  · obtain ⟨q1, q⟩ := ba (List.all_eq_true.mp b5 _ hb)
    obtain ⟨q2, q3⟩ := ba q
    exact ⟨_, _, He.glo_ok X G q1, He.glo_ok X G q2, of_decide_eq_true q3⟩

/-! ### the law -/
theorem law_sp {K : PySem.W.Frag} {C : List D → Hh → Kd → Ex → Prop} {H : Hp} {a : Addr} {ns : List Int} (hO : Only H) (hS : SqL K H a (ns.map V.int)) (w : C [.ref 0] [.frz (ns.map D.int)] (fun d _ => d = .bl true) EX0) {E : XK} : lfP0 K C [.ref a] H (fun v _ => v = .bl true) E := by
  have fz : Fz K H a (ns.map V.int) := by
    rcases hS with (e | ⟨o, e⟩) | q
    · rcases hO a with z | ⟨o, xs, z⟩
      · rw [e] at z; cases z
      · rw [e] at z; cases z
    · exact .inl ⟨o, e⟩
    · exact .inr q
  have rds : ∀ ns : List Int, RDs K [a] H (ns.map D.int) (ns.map V.int) := by
    intro ns
    induction ns with
    | nil => exact RDs.nil
    | cons n ns ih => exact RDs.cons rd_int ih
  refine ⟨[a], [.ref 0], [.frz (ns.map D.int)], _, RDs.cons (rd_ref rfl) RDs.nil, ⟨rfl, fun n o e => ?_, fun i j b oi oj ei ej mi mj li lj => ?_⟩, w, fun d h' v H' loc' q x rh r => ?_⟩
  · cases n with
    | zero => cases e; exact ⟨a, rfl, _, fz, rds ns⟩
    | succ n => simp at e
  · cases i with
    | zero => cases ei; cases mi
    | succ i => simp at ei
  · have q' : d = .bl true := q
    subst q'
    exact r.bl_
theorem law_F {l : PySem.W.OpenLaw} {w : World} {h : Heap} {mg : Str → Option Value} {cs : List (Str × D)} {ps : List PD} {xs : List XD} {hs : List (Str × Str × Bool)} {fa : Addr} {k iL : Nat} {p : PD} {x : Str} {n : Nat} (Y : ∃ K : PySem.W.Frag, K.In h ∧ SaysM cs ps xs hs K) (G : h.Ns mainGlobals mg) (hfa : mg p.x = some (.ref fa))
    (hp : ps[iL]? = some p) (hps : p.ps = [x]) (hall : (ps.all fun p => p.ok (fnsOf ps xs hs) (cs.map (·.1))) = true) (hax : (xs.all fun d => d.ok) = true := by rfl) (main : ∀ ns : List Int, ns.length ≤ n → run (cs.map (·.2)) (ps.map (·.m)) k iL [.ref 0] [.frz (ns.map D.int)] (fun d _ => d = .bl true) EX0) :
    ∃ (K : PySem.W.Frag) (fd : FuncData) (sp : Sp), K.In h ∧ (∀ (s : Shared) (u : Value), BindsTo s fd ⟨[u], []⟩ [(x, u)]) ∧
        (∀ (H : Hp) (a : Addr) (ns : List Int), ns.length ≤ n → Only H → SqL K H a (ns.map V.int) → sp [.ref a] H (fun v _ => v = .bl true) fun _ _ _ => False) ∧
        ∀ base : Heap, K.In base → base.Ns mainGlobals mg → FnOk l.prog w K mg base CX0 (k + 2) fa fd [x] sp := by
  obtain ⟨K, X, c⟩ := Y
  have T := top_of X G c
  have hok := fun q hq => List.all_eq_true.mp hall q hq
  have hxk := fun q hq => List.all_eq_true.mp hax q hq
  obtain ⟨a, fd, hm, F⟩ := T.fns iL p hp
  have e := hfa.symm.trans hm
  cases e
  have hb := PD.bindsA (hok p (List.mem_of_getElem? hp)) F
  rw [hps] at hb
  refine ⟨K, fd, lfP0 K (run (cs.map (·.2)) (ps.map (·.m)) k iL), X, fun s u => hb s [u] rfl, fun H a ns hn hO hS => law_sp hO hS (main ns hn), fun base _ _ => ?_⟩
  have q := fn_ok0 (P := l.prog) (w := w) (base := base) T hok hxk k iL p fa fd hp F
  rw [hps] at q
  exact q
/-- one def as a value, behind the module's other values -/
theorem top_fn1 {K : PySem.W.Frag} {mg : Str → Option Value} {ps : List PD} {gn : List Str} {gls : List D} {xs : List XD} {hs : List (Str × Str × Bool)} (T : Top K mg ps gn gls xs hs) (hl : gn.length = gls.length) {f : Nat} {p : PD} (hp : ps[f]? = some p) : ∃ a : Addr, Top K mg ps (gn ++ [p.x]) (gls ++ [D.fn a]) xs hs := by
  obtain ⟨a, fd, hm, _⟩ := T.fns f p hp
  refine ⟨a, T.blt, T.fns, fun i x d e1 e2 => ?_, T.exs, T.exm⟩
  by_cases hi : i < gn.length
  · rw [List.getElem?_append_left hi] at e1
    rw [List.getElem?_append_left (by omega)] at e2
    exact T.cns i x d e1 e2
  · rw [List.getElem?_append_right (by omega)] at e1 e2
    rw [← hl] at e2
    cases g : i - gn.length with
    | zero =>
      rw [g] at e1 e2
      cases e1
      cases e2
      exact ⟨.ref a, .ref a, hm, rfl, fun loc H => rd_fn⟩
    | succ _ => rw [g] at e1; simp at e1
theorem law_F1 {l : PySem.W.OpenLaw} {w : World} {h : Heap} {mg : Str → Option Value} {cs : List (Str × D)} {ps : List PD} {xs : List XD} {hs : List (Str × Str × Bool)} {fa : Addr} {k iL iV : Nat} {p pV : PD} {x : Str} {n : Nat} {gls : Addr → List D} (Y : ∃ K : PySem.W.Frag, K.In h ∧ SaysM cs ps xs hs K) (G : h.Ns mainGlobals mg) (hfa : mg p.x = some (.ref fa))
    (hp : ps[iL]? = some p) (hV : ps[iV]? = some pV) (hg : ∀ a, cs.map (·.2) ++ [D.fn a] = gls a) (hps : p.ps = [x]) (hall : (ps.all fun p => p.ok (fnsOf ps xs hs) (cs.map (·.1) ++ [pV.x])) = true) (hax : (xs.all fun d => d.ok) = true := by rfl)
    (main : ∀ (a : Addr) (ns : List Int), ns.length ≤ n → run (gls a) (ps.map (·.m)) k iL [.ref 0] [.frz (ns.map D.int)] (fun d _ => d = .bl true) EX0) :
    ∃ (K : PySem.W.Frag) (fd : FuncData) (sp : Sp), K.In h ∧ (∀ (s : Shared) (u : Value), BindsTo s fd ⟨[u], []⟩ [(x, u)]) ∧
        (∀ (H : Hp) (a : Addr) (ns : List Int), ns.length ≤ n → Only H → SqL K H a (ns.map V.int) → sp [.ref a] H (fun v _ => v = .bl true) fun _ _ _ => False) ∧
        ∀ base : Heap, K.In base → base.Ns mainGlobals mg → FnOk l.prog w K mg base CX0 (k + 2) fa fd [x] sp := by
  obtain ⟨K, X, c⟩ := Y
  obtain ⟨aV, T⟩ := top_fn1 (top_of X G c) (by simp) hV
  rw [hg] at T
  have hok := fun q hq => List.all_eq_true.mp hall q hq
  have hxk := fun q hq => List.all_eq_true.mp hax q hq
  obtain ⟨a, fd, hm, F⟩ := T.fns iL p hp
  have e := hfa.symm.trans hm
  cases e
  have hb := PD.bindsA (hok p (List.mem_of_getElem? hp)) F
  rw [hps] at hb
  refine ⟨K, fd, lfP0 K (run (gls aV) (ps.map (·.m)) k iL), X, fun s u => hb s [u] rfl, fun H a ns hn hO hS => law_sp hO hS (main aV ns hn), fun base _ _ => ?_⟩
  have q := fn_ok0 (P := l.prog) (w := w) (base := base) T hok hxk k iL p fa fd hp F
  rw [hps] at q
  exact q
theorem run_of {gls : List D} {tb : List MF} {n f : Nat} {ds : List D} {h : Hh} {Q : Kd} {X : Ex} {m : MF} {σ : Sg} (e : tb[f]? = some m) (l : ds.length = m.np) (s : ds.map some ++ List.replicate (m.ns - m.np) none = σ)
    (w : wB gls (run gls tb n) X m.body { nx := fun _ h' => Q .non h', rt := Q, bk := fun _ _ => False, ct := fun _ _ => False } σ h) : run gls tb (n + 1) f ds h Q X := by
  unfold run
  rw [e]
  subst s
  exact chk_i (by simp [l]) w
end Mi

set_option Elab.async false
set_option linter.all false
set_option maxRecDepth 100000
/-! Mi: how its runs are followed. -/
namespace Mi
open PySem PySem.Spec PyProof.Rows L2
/-- all but the places in S stands as it stood -/
structure Keep (S : List Nat) (h h' : Hh) : Prop where
  len : h.length ≤ h'.length
  at_ : ∀ (i : Nat) (o : MO), h[i]? = some o → i ∉ S → h'[i]? = some o
theorem Keep.refl {S : List Nat} {h : Hh} : Keep S h h := ⟨Nat.le_refl _, fun _ _ e _ => e⟩
theorem Keep.new {S : List Nat} {h : Hh} {o : MO} : Keep S h (h ++ [o]) := ⟨by simp, fun i x e _ => by rw [List.getElem?_append_left (List.getElem?_eq_some_iff.mp e).1]; exact e⟩
theorem Keep.set {S : List Nat} {h : Hh} {n : Nat} {o : MO} (hn : n ∈ S) : Keep S h (h.set n o) := ⟨by simp, fun i x e z => by
  have : n ≠ i := fun q => z (q ▸ hn)
  rw [List.getElem?_set_ne this]; exact e⟩
/-- one step more: what it changed is in S, or came behind h -/
theorem Keep.step {S T : List Nat} {h h' h2 : Hh} (b : Keep T h' h2) (a : Keep S h h') (s : ∀ i ∈ T, i ∈ S ∨ h.length ≤ i) : Keep S h h2 := ⟨Nat.le_trans a.len b.len, fun i o e n => b.at_ i o (a.at_ i o e n) fun z => by
  rcases s i z with q | q
  · exact n q
  · exact absurd (List.getElem?_eq_some_iff.mp e).1 (by omega)⟩
theorem Keep.get {S : List Nat} {h h' : Hh} {i : Nat} {o : MO} (a : Keep S h h') (e : h[i]? = some o) (n : i ∉ S) : h'[i]? = some o := a.at_ i o e n
theorem lt_of {h : Hh} {i : Nat} {o : MO} (e : h[i]? = some o) : i < h.length := (List.getElem?_eq_some_iff.mp e).1
theorem get_new {h : Hh} {o : MO} : (h ++ [o])[h.length]? = some o := by simp
theorem get_set {h : Hh} {n : Nat} {o x : MO} (e : h[n]? = some x) : (h.set n o)[n]? = some o := by
  rw [List.getElem?_set_self (lt_of e)]
theorem rdL_i {h : Hh} {n : Nat} {xs : List D} {K : List D → Prop} (e : h[n]? = some (.lst xs)) (k : K xs) : rdL h n K := rdO_i e k
/-- a new object: its place, the heap behind it -/
theorem new_i {h : Hh} {o : MO} {Q : Kd} (w : ∀ (p : Nat) (h' : Hh), h'[p]? = some o → h.length ≤ p → p < h'.length → h.length ≤ h'.length → Keep [] h h' → Q (.ref p) h') : new o h Q := new_b (w _ _ get_new (Nat.le_refl _) (by simp) (by simp) Keep.new)
/-- an object is changed -/
theorem put_i {h : Hh} {n : Nat} {o x : MO} {P : Hh → Prop} (e : h[n]? = some x) (w : ∀ h' : Hh, h'[n]? = some o → h.length ≤ h'.length → Keep [n] h h' → P h') : put h n o P := put_b (w _ (get_set e) (by simp) (Keep.set (by simp)))
theorem getAt_nat {xs : List D} {j : Nat} {d : D} (e : xs[j]? = some d) : getAt xs (j : Int) = some d := by
  have hl := (List.getElem?_eq_some_iff.mp e).1
  unfold getAt ixAt
  rw [if_pos (by omega), if_pos (by omega)]
  simpa using e
theorem getAt_end (xs : List D) (d : D) : getAt (xs ++ [d]) (-1) = some d := by
  unfold getAt ixAt
  rw [if_neg (by decide), if_pos (by simp; omega)]
  have : ((-1 : Int) + ((xs ++ [d]).length : Int)).toNat = xs.length := by simp; omega
  simp only [Option.bind_some, this]
  simp
/-! ### loops by what holds between two turns -/
/-- I: what is left, the slots, the heap -/
theorem loop_i {t : D → Sg → Hh → (Sg → Hh → Prop) → Prop} {b : Es → Sg → Hh → Prop} {R : Es} (I : List D → Sg → Hh → Prop)
    (turn : ∀ (x : D) (r : List D) (σ : Sg) (h : Hh) (K : Sg → Hh → Prop), I (x :: r) σ h → (∀ σ h, I r σ h → K σ h) → t x σ h fun σ1 h1 => b (lpE K R) σ1 h1)
    (fin : ∀ σ h, I [] σ h → R.nx σ h) : ∀ (xs : List D) (σ : Sg) (h : Hh), I xs σ h → loopS t b R xs σ h
  | [], σ, h, i => fin σ h i
  | x :: xs, σ, h, i => turn x xs σ h _ i fun σ h j => loop_i I turn fin xs σ h j
/-- a list's loop, the list unchanged -/
theorem loopL_i {t : D → Sg → Hh → (Sg → Hh → Prop) → Prop} {b : Es → Sg → Hh → Prop} {R : Es} {n : Nat} (ys : List D) (I : List D → Sg → Hh → Prop) (hI : ∀ r σ h, I r σ h → h[n]? = some (.lst ys))
    (turn : ∀ (x : D) (r : List D) (σ : Sg) (h : Hh) (K : Sg → Hh → Prop), I (x :: r) σ h → (∀ σ h, I r σ h → K σ h) → t x σ h fun σ1 h1 => b (lpE K R) σ1 h1)
    (fin : ∀ σ h, I [] σ h → R.nx σ h) : ∀ (xs : List D) (k i : Nat) (σ : Sg) (h : Hh), xs = ys.drop i → xs.length < k → I xs σ h → loopL t b R n k i σ h
  | [], 0, _, _, _, _, hk, _ => absurd hk (by simp)
  | _ :: _, 0, _, _, _, _, hk, _ => absurd hk (by simp)
  | [], k + 1, i, σ, h, e, _, j => by
    unfold loopL
    rw [hI _ _ _ j]
    have : ys[i]? = none := by
      have := congrArg List.length e
      simp at this
      simpa using (by omega : ys.length ≤ i)
    simp only [this]
    exact fin σ h j
  | x :: xs, k + 1, i, σ, h, e, hk, j => by
    unfold loopL
    rw [hI _ _ _ j]
    have e1 : ys[i]? = some x := by
      have := congrArg List.head? e
      simpa [List.head?_drop] using this.symm
    have e2 : xs = ys.drop (i + 1) := by
      have := congrArg List.tail e
      simpa [List.tail_drop] using this
    simp only [e1]
    exact turn x xs σ h _ j fun σ h j => loopL_i ys I hI turn fin xs k (i + 1) σ h e2 (by simp at hk; omega) j
theorem while_i {c : Sg → Hh → (Bool → Hh → Prop) → Prop} {b : Es → Sg → Hh → Prop} {R : Es} (I : Nat → Sg → Hh → Prop)
    (turn : ∀ (m : Nat) (σ : Sg) (h : Hh) (K : Sg → Hh → Prop), I m σ h → (∀ m' σ h, m' < m → I m' σ h → K σ h) → c σ h fun d h1 => br d (b (lpE K R) σ h1) (R.nx σ h1)) :
    ∀ (k m : Nat) (σ : Sg) (h : Hh), m < k → I m σ h → loopW c b R k σ h
  | 0, _, _, _, e, _ => absurd e (Nat.not_lt_zero _)
  | k + 1, m, σ, h, e, j => turn m σ h _ j fun m' σ' h' lt j' => while_i I turn k m' σ' h' (by omega) j'
theorem fuel_lt {m : Nat} (h : m < 1000000000) : m < fuel := by unfold fuel; exact h
/-- a comprehension: I: what is left, what is made, the heap -/
theorem comp_i {t : D → Sg → Hh → (Sg → Hh → Prop) → Prop} {c : Sg → Hh → (Bool → Hh → Prop) → Prop} {e : Sg → Hh → Kd → Prop} {σ0 : Sg} {p : Nat} {Q : Kd} (I : List D → List D → Hh → Prop)
    (turn : ∀ (x : D) (r acc : List D) (h : Hh) (K : Hh → Prop), h[p]? = some (.lst acc) → I (x :: r) acc h → (∀ acc h, h[p]? = some (.lst acc) → I r acc h → K h) →
      t x σ0 h fun σ1 h1 => c σ1 h1 fun d h2 => br d (e σ1 h2 fun y h3 => rdL h3 p fun acc => chk (decide (acc.length < sizeLine)) (put h3 p (.lst (acc ++ [y])) K)) (K h2))
    (fin : ∀ acc h, h[p]? = some (.lst acc) → I [] acc h → Q (.ref p) h) : ∀ (xs acc : List D) (h : Hh), h[p]? = some (.lst acc) → I xs acc h → compS t c e σ0 p Q xs h
  | [], acc, h, e1, i => fin acc h e1 i
  | x :: xs, acc, h, e1, i => turn x xs acc h _ e1 i fun acc h e2 j => comp_i I turn fin xs acc h e2 j
theorem compL_i {t : D → Sg → Hh → (Sg → Hh → Prop) → Prop} {c : Sg → Hh → (Bool → Hh → Prop) → Prop} {e : Sg → Hh → Kd → Prop} {σ0 : Sg} {p : Nat} {Q : Kd} {n : Nat} (ys : List D) (I : List D → List D → Hh → Prop) (hI : ∀ r a h, I r a h → h[n]? = some (.lst ys))
    (turn : ∀ (x : D) (r acc : List D) (h : Hh) (K : Hh → Prop), h[p]? = some (.lst acc) → I (x :: r) acc h → (∀ acc h, h[p]? = some (.lst acc) → I r acc h → K h) →
      t x σ0 h fun σ1 h1 => c σ1 h1 fun d h2 => br d (e σ1 h2 fun y h3 => rdL h3 p fun acc => chk (decide (acc.length < sizeLine)) (put h3 p (.lst (acc ++ [y])) K)) (K h2))
    (fin : ∀ acc h, h[p]? = some (.lst acc) → I [] acc h → Q (.ref p) h) : ∀ (xs : List D) (k i : Nat) (acc : List D) (h : Hh), xs = ys.drop i → xs.length < k → h[p]? = some (.lst acc) → I xs acc h → compL t c e σ0 p Q n k i h
  | [], 0, _, _, _, _, hk, _, _ => absurd hk (by simp)
  | _ :: _, 0, _, _, _, _, hk, _, _ => absurd hk (by simp)
  | [], k + 1, i, acc, h, e0, _, e1, j => by
    unfold compL
    rw [hI _ _ _ j]
    have : ys[i]? = none := by
      have := congrArg List.length e0
      simp at this
      simpa using (by omega : ys.length ≤ i)
    simp only [this]
    exact fin acc h e1 j
  | x :: xs, k + 1, i, acc, h, e0, hk, e1, j => by
    unfold compL
    rw [hI _ _ _ j]
    have e3 : ys[i]? = some x := by
      have := congrArg List.head? e0
      simpa [List.head?_drop] using this.symm
    have e2 : xs = ys.drop (i + 1) := by
      have := congrArg List.tail e0
      simpa [List.tail_drop] using this
    simp only [e3]
    exact turn x xs acc h _ e1 j fun acc h e2' j' => compL_i ys I hI turn fin xs k (i + 1) acc h e2 (by simp at hk; omega) e2' j'
end Mi
namespace Mi
open PySem PySem.Spec PyProof.Rows L2
theorem range_cons {x : D} {r : List D} {m : Nat} {lo : Int} {i : Nat} (e : x :: r = range m lo i) : ∃ m', m = m' + 1 ∧ x = .int (lo + i) ∧ r = range m' lo (i + 1) := by
  cases m with
  | zero => cases e
  | succ m => unfold range at e; cases e; exact ⟨m, rfl, rfl, rfl⟩
theorem range_nil {m : Nat} {lo : Int} {i : Nat} (e : [] = range m lo i) : m = 0 := by
  cases m with
  | zero => rfl
  | succ m => unfold range at e; cases e
theorem mulOk_r {i j : Int} (h : j.natAbs < 2 ^ 64) : mulOk i j = true := by
  unfold mulOk
  rw [decide_eq_true h]
  simp
theorem mulOk_l {i j : Int} (h : i.natAbs < 2 ^ 64) : mulOk i j = true := by
  unfold mulOk
  rw [decide_eq_true h]
  simp
theorem lenOk_le {n : Nat} (h : n ≤ 16777216) : lenOk n = true := by
  unfold lenOk
  rw [sizeLine_eq]
  exact decide_eq_true h
theorem small_lt {n : Nat} (h : n < 16777216) : decide (n < sizeLine) = true := by
  rw [sizeLine_eq]
  exact decide_eq_true h
theorem intsOf_map : ∀ ms : List Int, intsOf (ms.map D.int) = some ms
  | [] => rfl
  | m :: ms => by
    show (intsOf (ms.map D.int)).map (m :: ·) = _
    rw [intsOf_map ms]
    rfl
theorem maxI_max : ∀ (m : Int) (ms : List Int), maxI m ms = ms.foldl max m
  | m, [] => rfl
  | m, x :: xs => by
    unfold maxI
    rw [maxI_max]
    show _ = xs.foldl max (max m x)
    congr 1
    omega
theorem getAt_map {xs : List D} {i : Nat} {d : D} (e : xs[i]? = some d) {k : Int} (hk : k = i) : getAt xs k = some d := by
  rw [hk]
  exact getAt_nat e
end Mi

set_option Elab.async false
set_option linter.all false
set_option maxRecDepth 100000
/-! Mi: comprehensions over lists that are known. -/
namespace Mi
open PySem PySem.Spec PyProof.Rows L2
theorem keep_nil {S : List Nat} {h h' : Hh} (k : Keep [] h h') : Keep S h h' := ⟨k.len, fun i o e _ => k.at_ i o e List.not_mem_nil⟩
theorem Keep.trans {S : List Nat} {h h' h2 : Hh} (a : Keep S h h') (b : Keep S h' h2) : Keep S h h2 := ⟨Nat.le_trans a.len b.len, fun i o e n => b.at_ i o (a.at_ i o e n) n⟩
theorem flt_i {α : Type} {t : D → Sg → Hh → (Sg → Hh → Prop) → Prop} {c : Sg → Hh → (Bool → Hh → Prop) → Prop} {e : Sg → Hh → Kd → Prop} {σ0 : Sg} {p : Nat} {Q : Kd} {h0 : Hh} (f g : α → D) (pr : α → Bool) (xs : List α)
    (e0 : h0[p]? = some (.lst [])) (hl : xs.length < 16777216)
    (el : ∀ x ∈ xs, ∀ (h : Hh) (K : Kd) (N : Hh → Prop), Keep [p] h0 h → (pr x = true → ∀ h', Keep [] h h' → K (g x) h') → (pr x = false → ∀ h', Keep [] h h' → N h') →
      t (f x) σ0 h fun σ1 h1 => c σ1 h1 fun d h2 => br d (e σ1 h2 K) (N h2))
    (fin : ∀ h, h[p]? = some (.lst ((xs.filter pr).map g)) → Keep [p] h0 h → Q (.ref p) h) : compS t c e σ0 p Q (xs.map f) h0 := by
  refine comp_i (I := fun r acc h => ∃ z1 z2, xs = z1 ++ z2 ∧ r = z2.map f ∧ acc = (z1.filter pr).map g ∧ Keep [p] h0 h) ?_ ?_ _ _ _ e0 ⟨[], xs, rfl, rfl, rfl, Keep.refl⟩
  · rintro x r acc h K eh ⟨z1, z2, ez, er, rfl, k⟩ hK
    cases z2 with
    | nil => cases er
    | cons z z2 =>
      simp only [List.map_cons, List.cons.injEq] at er
      obtain ⟨rfl, rfl⟩ := er
      have hz := congrArg List.length ez
      simp only [List.length_append, List.length_cons] at hz
      refine el z (by rw [ez]; simp) h _ _ k (fun pz h' k' => ?_) (fun pz h' k' => ?_)
      · have e1 : h'[p]? = some (.lst ((z1.filter pr).map g)) := k'.get eh List.not_mem_nil
        refine rdL_i e1 (chk_i (small_lt ?_) (put_i e1 fun h2 e2 l2 k2 => hK _ _ e2 ⟨z1 ++ [z], z2, by rw [ez]; simp, rfl, ?_, (k.trans (keep_nil k')).trans k2⟩))
        · rw [List.length_map]
          exact Nat.lt_of_le_of_lt (List.length_filter_le _ _) (by omega)
        · rw [List.filter_append, List.map_append, List.filter_cons_of_pos pz]
          rfl
      · have e1 : h'[p]? = some (.lst ((z1.filter pr).map g)) := k'.get eh List.not_mem_nil
        refine hK _ _ e1 ⟨z1 ++ [z], z2, by rw [ez]; simp, rfl, ?_, k.trans (keep_nil k')⟩
        rw [List.filter_append, List.filter_cons_of_neg (by rw [pz]; decide)]
        simp
  · rintro acc h eh ⟨z1, z2, ez, er, rfl, k⟩
    have : z2 = [] := List.map_eq_nil_iff.mp er.symm
    subst this
    rw [List.append_nil] at ez
    subst ez
    exact fin h eh k
theorem fltL_i {α : Type} {t : D → Sg → Hh → (Sg → Hh → Prop) → Prop} {c : Sg → Hh → (Bool → Hh → Prop) → Prop} {e : Sg → Hh → Kd → Prop} {σ0 : Sg} {p : Nat} {Q : Kd} {n : Nat} {h0 : Hh} (f g : α → D) (pr : α → Bool) (xs : List α)
    (en : h0[n]? = some (.lst (xs.map f))) (e0 : h0[p]? = some (.lst [])) (np : n ≠ p) (hl : xs.length < 16777216)
    (el : ∀ x ∈ xs, ∀ (h : Hh) (K : Kd) (N : Hh → Prop), Keep [p] h0 h → (pr x = true → ∀ h', Keep [] h h' → K (g x) h') → (pr x = false → ∀ h', Keep [] h h' → N h') →
      t (f x) σ0 h fun σ1 h1 => c σ1 h1 fun d h2 => br d (e σ1 h2 K) (N h2))
    (fin : ∀ h, h[p]? = some (.lst ((xs.filter pr).map g)) → Keep [p] h0 h → Q (.ref p) h) : compL t c e σ0 p Q n fuel 0 h0 := by
  refine compL_i (xs.map f) (I := fun r acc h => ∃ z1 z2, xs = z1 ++ z2 ∧ r = z2.map f ∧ acc = (z1.filter pr).map g ∧ Keep [p] h0 h) ?_ ?_ ?_ (xs.map f) _ _ _ _ (by simp) (fuel_lt (by rw [List.length_map]; omega)) e0 ⟨[], xs, rfl, rfl, rfl, Keep.refl⟩
  · rintro r a h ⟨z1, z2, ez, er, ea, k⟩
    exact k.get en (by simp [np])
  · rintro x r acc h K eh ⟨z1, z2, ez, er, rfl, k⟩ hK
    cases z2 with
    | nil => cases er
    | cons z z2 =>
      simp only [List.map_cons, List.cons.injEq] at er
      obtain ⟨rfl, rfl⟩ := er
      have hz := congrArg List.length ez
      simp only [List.length_append, List.length_cons] at hz
      refine el z (by rw [ez]; simp) h _ _ k (fun pz h' k' => ?_) (fun pz h' k' => ?_)
      · have e1 : h'[p]? = some (.lst ((z1.filter pr).map g)) := k'.get eh List.not_mem_nil
        refine rdL_i e1 (chk_i (small_lt ?_) (put_i e1 fun h2 e2 l2 k2 => hK _ _ e2 ⟨z1 ++ [z], z2, by rw [ez]; simp, rfl, ?_, (k.trans (keep_nil k')).trans k2⟩))
        · rw [List.length_map]
          exact Nat.lt_of_le_of_lt (List.length_filter_le _ _) (by omega)
        · rw [List.filter_append, List.map_append, List.filter_cons_of_pos pz]
          rfl
      · have e1 : h'[p]? = some (.lst ((z1.filter pr).map g)) := k'.get eh List.not_mem_nil
        refine hK _ _ e1 ⟨z1 ++ [z], z2, by rw [ez]; simp, rfl, ?_, k.trans (keep_nil k')⟩
        rw [List.filter_append, List.filter_cons_of_neg (by rw [pz]; decide)]
        simp
  · rintro acc h eh ⟨z1, z2, ez, er, rfl, k⟩
    have : z2 = [] := List.map_eq_nil_iff.mp er.symm
    subst this
    rw [List.append_nil] at ez
    subst ez
    exact fin h eh k
theorem flt_all {α : Type} : ∀ xs : List α, xs.filter (fun _ => true) = xs
  | [] => rfl
  | x :: xs => by rw [List.filter_cons_of_pos rfl, flt_all xs]
/-- without a test -/
theorem map_i {α : Type} {t : D → Sg → Hh → (Sg → Hh → Prop) → Prop} {c : Sg → Hh → (Bool → Hh → Prop) → Prop} {e : Sg → Hh → Kd → Prop} {σ0 : Sg} {p : Nat} {Q : Kd} {h0 : Hh} (f g : α → D) (xs : List α)
    (e0 : h0[p]? = some (.lst [])) (hl : xs.length < 16777216)
    (el : ∀ x ∈ xs, ∀ (h : Hh) (K : Kd) (N : Hh → Prop), Keep [p] h0 h → (∀ h', Keep [] h h' → K (g x) h') →
      t (f x) σ0 h fun σ1 h1 => c σ1 h1 fun d h2 => br d (e σ1 h2 K) (N h2))
    (fin : ∀ h, h[p]? = some (.lst (xs.map g)) → Keep [p] h0 h → Q (.ref p) h) : compS t c e σ0 p Q (xs.map f) h0 :=
  flt_i f g (fun _ => true) xs e0 hl (fun x hx h K N k a _ => el x hx h K N k (a rfl)) fun h eh k => fin h (by rw [eh, flt_all]) k
theorem mapL_i {α : Type} {t : D → Sg → Hh → (Sg → Hh → Prop) → Prop} {c : Sg → Hh → (Bool → Hh → Prop) → Prop} {e : Sg → Hh → Kd → Prop} {σ0 : Sg} {p : Nat} {Q : Kd} {n : Nat} {h0 : Hh} (f g : α → D) (xs : List α)
    (en : h0[n]? = some (.lst (xs.map f))) (e0 : h0[p]? = some (.lst [])) (np : n ≠ p) (hl : xs.length < 16777216)
    (el : ∀ x ∈ xs, ∀ (h : Hh) (K : Kd) (N : Hh → Prop), Keep [p] h0 h → (∀ h', Keep [] h h' → K (g x) h') →
      t (f x) σ0 h fun σ1 h1 => c σ1 h1 fun d h2 => br d (e σ1 h2 K) (N h2))
    (fin : ∀ h, h[p]? = some (.lst (xs.map g)) → Keep [p] h0 h → Q (.ref p) h) : compL t c e σ0 p Q n fuel 0 h0 :=
  fltL_i f g (fun _ => true) xs en e0 np hl (fun x hx h K N k a _ => el x hx h K N k (a rfl)) fun h eh k => fin h (by rw [eh, flt_all]) k
end Mi

set_option Elab.async false
set_option linter.all false
set_option maxRecDepth 100000
namespace Mi
open PySem PySem.Spec PyProof.Rows L2
/-- one item of a tuple -/
def pvIx : Option D → Option D → Option D
  | some (.tup xs), some (.int k) => getAt xs k
  | _, _ => none
def pvAdd : Option D → Option D → Option D
  | some (.tup xs), some (.tup ys) => if lenOk (xs.length + ys.length) then some (.tup (xs ++ ys)) else none
  | _, _ => none
def pvBin (op : BOp) (a b : Option D) : Option D := match op with
  | .add => pvAdd a b
  | _ => none
def pvSl : Option D → Option (Option Int) → Option (Option Int) → Option D
  | some (.tup xs), some l, some u => if (!(decide (HT.sIx xs.length 0 l = 0) && decide (HT.sIx xs.length xs.length u = xs.length))) then some (.tup (cutD xs l u)) else none
  | _, _, _ => none
def pvTup : Option (List D) → Option D
  | some ds => if lenOk ds.length then some (.tup ds) else none
  | none => none
def pvCons : Option D → Option (List D) → Option (List D)
  | some d, some ds => some (d :: ds)
  | _, _ => none
def pvInt : Option D → Option (Option Int)
  | some (.int i) => some (some i)
  | _ => none
def pvVar : Option (Option D) → Option D
  | some (some d) => some d
  | _ => none
mutual
/-- what a word without calls and objects is worth -/
def pv (σ : Sg) : ME → Option D
  | .non => some .non
  | .bl b => some (.bl b)
  | .int i => some (.int i)
  | .str x => some (.str x)
  | .var i => pvVar σ[i]?
  | .bin op a b => pvBin op (pv σ a) (pv σ b)
  | .ix a i => pvIx (pv σ a) (pv σ i)
  | .sl a lo hi => pvSl (pv σ a) (pvo σ lo) (pvo σ hi)
  | .tup es => pvTup (pvs σ es)
  | _ => none
def pvs (σ : Sg) : MEs → Option (List D)
  | .nil => some []
  | .cons e es => pvCons (pv σ e) (pvs σ es)
def pvo (σ : Sg) : MEo → Option (Option Int)
  | .none => some none
  | .some e => pvInt (pv σ e)
end
section
variable {gls : List D} {C : Cl} {X : Ex}
mutual
theorem pv_i : ∀ (e : ME) {σ : Sg} {d : D} {h : Hh} {Q : Kd}, pv σ e = some d → Q d h → wE gls C X e σ h Q
  | .non, σ, d, h, Q, e, w => by cases e; exact w
  | .bl b, σ, d, h, Q, e, w => by cases e; exact w
  | .int b, σ, d, h, Q, e, w => by cases e; exact w
  | .str b, σ, d, h, Q, e, w => by cases e; exact w
  | .var i, σ, d, h, Q, e, w => by
    show look σ i fun d => Q d h
    have e' : pvVar σ[i]? = some d := e
    unfold look
    cases hx : σ[i]? with
    | none => rw [hx] at e'; cases e'
    | some o =>
      rw [hx] at e'
      cases o with
      | none => cases e'
      | some d' => cases e'; exact w
  | .bin op a b, σ, d, h, Q, e, w => by
    have e' : pvBin op (pv σ a) (pv σ b) = some d := e
    cases op with
    | add =>
      have e' : pvAdd (pv σ a) (pv σ b) = some d := e
      cases ha : pv σ a with
      | none => rw [ha] at e'; cases e'
      | some x =>
        cases hb : pv σ b with
        | none => rw [ha, hb] at e'; cases x <;> cases e'
        | some y =>
          rw [ha, hb] at e'
          show wE gls C X a σ h fun x h1 => wE gls C X b σ h1 fun y h2 => opBin .add x y h2 Q
          refine pv_i a ha (pv_i b hb ?_)
          cases x with
          | tup xs =>
            cases y with
            | tup ys =>
              have e2 : (if lenOk (xs.length + ys.length) then some (D.tup (xs ++ ys)) else none) = some d := e'
              split at e2
              · rename_i hl
                cases e2
                exact chk_i hl w
              · cases e2
            | _ => cases e'
          | _ => cases e'
    | _ => cases e'
  | .ix a i, σ, d, h, Q, e, w => by
    have e' : pvIx (pv σ a) (pv σ i) = some d := e
    cases ha : pv σ a with
    | none => rw [ha] at e'; cases e'
    | some x =>
      cases hb : pv σ i with
      | none => rw [ha, hb] at e'; cases x <;> cases e'
      | some y =>
        rw [ha, hb] at e'
        show wE gls C X a σ h fun x h1 => wE gls C X i σ h1 fun y h2 => opIx x y h2 Q
        refine pv_i a ha (pv_i i hb ?_)
        cases x with
        | tup xs =>
          cases y with
          | int k => exact itm_i (K := fun d => Q d h) e' w
          | _ => cases e'
        | _ => cases e'
  | .sl a lo hi, σ, d, h, Q, e, w => by
    have e' : pvSl (pv σ a) (pvo σ lo) (pvo σ hi) = some d := e
    cases ha : pv σ a with
    | none => rw [ha] at e'; cases e'
    | some x =>
      cases hb : pvo σ lo with
      | none => rw [ha, hb] at e'; cases x <;> cases e'
      | some y =>
        cases hc : pvo σ hi with
        | none => rw [ha, hb, hc] at e'; cases x <;> cases e'
        | some z =>
          rw [ha, hb, hc] at e'
          show wE gls C X a σ h fun x h1 => wEo gls C X lo σ h1 fun l h2 => wEo gls C X hi σ h2 fun u h3 => opSl x l u h3 Q
          refine pv_i a ha (pvo_i lo hb (pvo_i hi hc ?_))
          cases x with
          | tup xs =>
            have e2 : (if (!(decide (HT.sIx xs.length 0 y = 0) && decide (HT.sIx xs.length xs.length z = xs.length))) then some (D.tup (cutD xs y z)) else none) = some d := e'
            split at e2
            · rename_i hl
              cases e2
              exact chk_i hl w
            · cases e2
          | _ => cases e'
  | .tup es, σ, d, h, Q, e, w => by
    have e' : pvTup (pvs σ es) = some d := e
    cases hs : pvs σ es with
    | none => rw [hs] at e'; cases e'
    | some ds =>
      rw [hs] at e'
      show wEs gls C X es σ h fun ds h1 => chk (lenOk ds.length) (Q (.tup ds) h1)
      refine pvs_i es hs ?_
      have e2 : (if lenOk ds.length then some (D.tup ds) else none) = some d := e'
      split at e2
      · rename_i hl
        cases e2
        exact chk_i hl w
      · cases e2
  | .gl _, σ, d, h, Q, e, w => by cases e
  | .neg _, σ, d, h, Q, e, w => by cases e
  | .not _, σ, d, h, Q, e, w => by cases e
  | .cmp _ _ _, σ, d, h, Q, e, w => by cases e
  | .chain _ _ _ _ _, σ, d, h, Q, e, w => by cases e
  | .and _ _, σ, d, h, Q, e, w => by cases e
  | .or _ _, σ, d, h, Q, e, w => by cases e
  | .ife _ _ _, σ, d, h, Q, e, w => by cases e
  | .call _ _, σ, d, h, Q, e, w => by cases e
  | .blt _ _, σ, d, h, Q, e, w => by cases e
  | .isi _ _, σ, d, h, Q, e, w => by cases e
  | .meth _ _ _, σ, d, h, Q, e, w => by cases e
  | .rev _, σ, d, h, Q, e, w => by cases e
  | .dnew, σ, d, h, Q, e, w => by cases e
  | .dlit _ _, σ, d, h, Q, e, w => by cases e
  | .dget _ _ _, σ, d, h, Q, e, w => by cases e
  | .callk _ _, σ, d, h, Q, e, w => by cases e
  | .callv _ _ _ _, σ, d, h, Q, e, w => by cases e
  | .lst _, σ, d, h, Q, e, w => by cases e
  | .lc _ _ _ _, σ, d, h, Q, e, w => by cases e
theorem pvs_i : ∀ (es : MEs) {σ : Sg} {ds : List D} {h : Hh} {Q : List D → Hh → Prop}, pvs σ es = some ds → Q ds h → wEs gls C X es σ h Q
  | .nil, σ, ds, h, Q, e, w => by cases e; exact w
  | .cons a as, σ, ds, h, Q, e, w => by
    have e' : pvCons (pv σ a) (pvs σ as) = some ds := e
    cases ha : pv σ a with
    | none => rw [ha] at e'; cases e'
    | some x =>
      cases hb : pvs σ as with
      | none => rw [ha, hb] at e'; cases e'
      | some xs =>
        rw [ha, hb] at e'
        cases e'
        exact pv_i a ha (pvs_i as hb w)
theorem pvo_i : ∀ (e : MEo) {σ : Sg} {l : Option Int} {h : Hh} {Q : Option Int → Hh → Prop}, pvo σ e = some l → Q l h → wEo gls C X e σ h Q
  | .none, σ, l, h, Q, e, w => by cases e; exact w
  | .some a, σ, l, h, Q, e, w => by
    have e' : pvInt (pv σ a) = some l := e
    cases ha : pv σ a with
    | none => rw [ha] at e'; cases e'
    | some x =>
      rw [ha] at e'
      cases x with
      | int i => cases e'; exact pv_i a ha w
      | _ => cases e'
end
/-- a name gets what a plain word is worth -/
theorem asgP {i : Nat} {e : ME} {b : MB} {R : Es} {σ : Sg} {h : Hh} {d : D} (p : pv σ e = some d) (w : wB gls C X b R (σ.set i (some d)) h) : wB gls C X (.cons (.asg (.name i) e) b) R σ h :=
  show wE gls C X e σ h fun d h1 => wG gls C X (.name i) d σ h1 (seqE (wB gls C X b) R).nx from pv_i e p w
end
end Mi

set_option Elab.async false
set_option linter.all false
set_option maxRecDepth 100000
set_option maxHeartbeats 4000000
namespace Lw
open PySem PySem.Spec PyProof.Rows L2 Mi
def w_call : Str := ⟨⟨[99, 97, 108, 108]⟩⟩
def w_out : Str := ⟨⟨[111, 117, 116]⟩⟩
def w_return : Str := ⟨⟨[114, 101, 116, 117, 114, 110]⟩⟩
def w_while : Str := ⟨⟨[119, 104, 105, 108, 101]⟩⟩
def w_if : Str := ⟨⟨[105, 102]⟩⟩
def w_set : Str := ⟨⟨[115, 101, 116]⟩⟩
def w_var : Str := ⟨⟨[118, 97, 114]⟩⟩
def w_hold : Str := ⟨⟨[104, 111, 108, 100]⟩⟩
def w_on_ : Str := ⟨⟨[111, 110, 32]⟩⟩
def w_main : Str := ⟨⟨[109, 97, 105, 110]⟩⟩
def w_fun_ : Str := ⟨⟨[102, 117, 110, 32]⟩⟩
def w_cell_ : Str := ⟨⟨[99, 101, 108, 108, 32]⟩⟩
def w_name : Str := ⟨⟨[110, 97, 109, 101]⟩⟩
def w_BadStep : Str := ⟨⟨[66, 97, 100, 83, 116, 101, 112]⟩⟩
def w_word : Str := ⟨⟨[119, 111, 114, 100]⟩⟩
def w_taken : Str := ⟨⟨[116, 97, 107, 101, 110]⟩⟩
def w_part : Str := ⟨⟨[112, 97, 114, 116]⟩⟩
def w_a0 : Str := ⟨⟨[97, 48]⟩⟩
def w_q : Str := ⟨⟨[113]⟩⟩
def w_ : Str := ⟨⟨[]⟩⟩
def w_abcdefghijklmnopqrstuvwxyz : Str := ⟨⟨[97, 98, 99, 100, 101, 102, 103, 104, 105, 106, 107, 108, 109, 110, 111, 112, 113, 114, 115, 116, 117, 118, 119, 120, 121, 122]⟩⟩
def w_same : Str := ⟨⟨[115, 97, 109, 101]⟩⟩
def w_less : Str := ⟨⟨[108, 101, 115, 115]⟩⟩
def w_mul : Str := ⟨⟨[109, 117, 108]⟩⟩
def w_sub : Str := ⟨⟨[115, 117, 98]⟩⟩
def w_add : Str := ⟨⟨[97, 100, 100]⟩⟩
def w_in : Str := ⟨⟨[105, 110]⟩⟩
def w_number : Str := ⟨⟨[110, 117, 109, 98, 101, 114]⟩⟩
def w_fun : Str := ⟨⟨[102, 117, 110]⟩⟩
def w_on : Str := ⟨⟨[111, 110]⟩⟩
def w_told : Str := ⟨⟨[116, 111, 108, 100]⟩⟩
def w_refused : Str := ⟨⟨[114, 101, 102, 117, 115, 101, 100]⟩⟩
def w_a_ : Str := ⟨⟨[97, 95]⟩⟩
def w_a_b : Str := ⟨⟨[97, 32, 98]⟩⟩
def w_Up : Str := ⟨⟨[85, 112]⟩⟩
def w_a : Str := ⟨⟨[97]⟩⟩
def w_toolonger9 : Str := ⟨⟨[116, 111, 111, 108, 111, 110, 103, 101, 114, 57]⟩⟩
def w_9a : Str := ⟨⟨[57, 97]⟩⟩
def w_f : Str := ⟨⟨[102]⟩⟩
def w_cell_c : Str := ⟨⟨[99, 101, 108, 108, 32, 99]⟩⟩
def w_c : Str := ⟨⟨[99]⟩⟩
def w_t : Str := ⟨⟨[116]⟩⟩
def w_fun_f : Str := ⟨⟨[102, 117, 110, 32, 102]⟩⟩
def w_z9 : Str := ⟨⟨[122, 57]⟩⟩
def w_b : Str := ⟨⟨[98]⟩⟩
def w_no : Str := ⟨⟨[110, 111]⟩⟩
def w_on_1_ : Str := ⟨⟨[111, 110, 32, 49, 32]⟩⟩
def w_cell_cz9 : Str := ⟨⟨[99, 101, 108, 108, 32, 99, 122, 57]⟩⟩
def w_mains : Str := ⟨⟨[109, 97, 105, 110, 115]⟩⟩
def w_on_9 : Str := ⟨⟨[111, 110, 32, 57]⟩⟩
def w_fun_zz9 : Str := ⟨⟨[102, 117, 110, 32, 122, 122, 57]⟩⟩
def w_0123456789 : Str := ⟨⟨[48, 49, 50, 51, 52, 53, 54, 55, 56, 57]⟩⟩
def w_cell : Str := ⟨⟨[99, 101, 108, 108]⟩⟩
def w_else : Str := ⟨⟨[101, 108, 115, 101]⟩⟩
def topS (i : Nat) : Stmt := PySem.Challenge.pw_placesforgood_k27_locals_renamed.main.body.getD i (.Pass ⟨0, 0, 0, 0⟩)
def c_inner_expressions_0 : MB := (.cons (.ret (.ife (.cmp .eq (.ix (.var 0) (.int 0)) (.str w_call)) (.blt .list (.cons (.ix (.var 0) (.int 2)) .nil)) (.lst .nil))) .nil)
def c_inner_expressions_1 : MB := (.cons (.ret (.lst (.cons (.ix (.var 0) (.int 1)) (.cons (.ix (.var 0) (.int 2)) .nil)))) .nil)
def c_inner_expressions_2 : MB := (.cons (.ife (.cmp .isin (.ix (.var 0) (.int 0)) (.gl 0)) c_inner_expressions_1 .nil) c_inner_expressions_0)
def b_inner_expressions : MB := c_inner_expressions_2
def m_inner_expressions : MF := ⟨1, 1, b_inner_expressions⟩
def c_with_inner_0 : MB := (.cons (.ret (.ife (.cmp .eq (.ix (.var 0) (.int 0)) (.str w_call)) (.tup (.cons (.str w_call) (.cons (.ix (.var 0) (.int 1)) (.cons (.blt .tuple (.cons (.var 1) .nil)) .nil)))) (.var 0))) .nil)
def c_with_inner_1 : MB := (.cons (.ret (.tup (.cons (.ix (.var 0) (.int 0)) (.cons (.ix (.var 1) (.int 0)) (.cons (.ix (.var 1) (.int 1)) .nil))))) .nil)
def c_with_inner_2 : MB := (.cons (.ife (.cmp .isin (.ix (.var 0) (.int 0)) (.gl 0)) c_with_inner_1 .nil) c_with_inner_0)
def b_with_inner : MB := c_with_inner_2
def m_with_inner : MF := ⟨2, 2, b_with_inner⟩
def c_own_expressions_0 : MB := (.cons (.ret (.ife (.cmp .isin (.var 1) (.tup (.cons (.str w_if) (.cons (.str w_while) (.cons (.str w_return) (.cons (.str w_out) .nil)))))) (.lst (.cons (.ix (.var 0) (.int 1)) .nil)) (.lst .nil))) .nil)
def c_own_expressions_1 : MB := (.cons (.ret (.blt .list (.cons (.ix (.var 0) (.int 2)) .nil))) .nil)
def c_own_expressions_2 : MB := (.cons (.ife (.cmp .eq (.var 1) (.str w_call)) c_own_expressions_1 .nil) c_own_expressions_0)
def c_own_expressions_3 : MB := (.cons (.ret (.lst (.cons (.ix (.var 0) (.int 2)) .nil))) .nil)
def c_own_expressions_4 : MB := (.cons (.ife (.cmp .isin (.var 1) (.tup (.cons (.str w_var) (.cons (.str w_set) .nil)))) c_own_expressions_3 .nil) c_own_expressions_2)
def c_own_expressions_5 : MB := (.cons (.asg (.name 1) (.ix (.var 0) (.int 0))) c_own_expressions_4)
def b_own_expressions : MB := c_own_expressions_5
def m_own_expressions : MF := ⟨1, 2, b_own_expressions⟩
def c_own_blocks_0 : MB := (.cons (.ret (.ife (.cmp .eq (.var 1) (.str w_hold)) (.lst (.cons (.ix (.var 0) (.int 1)) .nil)) (.lst .nil))) .nil)
def c_own_blocks_1 : MB := (.cons (.ret (.lst (.cons (.ix (.var 0) (.int 2)) .nil))) .nil)
def c_own_blocks_2 : MB := (.cons (.ife (.cmp .eq (.var 1) (.str w_while)) c_own_blocks_1 .nil) c_own_blocks_0)
def c_own_blocks_3 : MB := (.cons (.ret (.lst (.cons (.ix (.var 0) (.int 2)) (.cons (.ix (.var 0) (.int 3)) .nil)))) .nil)
def c_own_blocks_4 : MB := (.cons (.ife (.cmp .eq (.var 1) (.str w_if)) c_own_blocks_3 .nil) c_own_blocks_2)
def c_own_blocks_5 : MB := (.cons (.asg (.name 1) (.ix (.var 0) (.int 0))) c_own_blocks_4)
def b_own_blocks : MB := c_own_blocks_5
def m_own_blocks : MF := ⟨1, 2, b_own_blocks⟩
def c_with_own_0 : MB := (.cons (.ret (.tup (.cons (.var 3) (.cons (.ix (.var 1) (.int 0)) .nil)))) .nil)
def c_with_own_1 : MB := (.cons (.ret (.tup (.cons (.var 3) (.cons (.ix (.var 2) (.int 0)) .nil)))) .nil)
def c_with_own_2 : MB := (.cons (.ife (.cmp .eq (.var 3) (.str w_hold)) c_with_own_1 .nil) c_with_own_0)
def c_with_own_3 : MB := (.cons (.ret (.tup (.cons (.var 3) (.cons (.ix (.var 1) (.int 0)) (.cons (.ix (.var 2) (.int 0)) .nil))))) .nil)
def c_with_own_4 : MB := (.cons (.ife (.cmp .eq (.var 3) (.str w_while)) c_with_own_3 .nil) c_with_own_2)
def c_with_own_5 : MB := (.cons (.ret (.tup (.cons (.var 3) (.cons (.ix (.var 1) (.int 0)) (.cons (.ix (.var 2) (.int 0)) (.cons (.ix (.var 2) (.int 1)) .nil)))))) .nil)
def c_with_own_6 : MB := (.cons (.ife (.cmp .eq (.var 3) (.str w_if)) c_with_own_5 .nil) c_with_own_4)
def c_with_own_7 : MB := (.cons (.ret (.tup (.cons (.var 3) (.cons (.ix (.var 0) (.int 1)) (.cons (.blt .tuple (.cons (.var 1) .nil)) .nil))))) .nil)
def c_with_own_8 : MB := (.cons (.ife (.cmp .eq (.var 3) (.str w_call)) c_with_own_7 .nil) c_with_own_6)
def c_with_own_9 : MB := (.cons (.ret (.tup (.cons (.var 3) (.cons (.ix (.var 0) (.int 1)) (.cons (.ix (.var 1) (.int 0)) .nil))))) .nil)
def c_with_own_10 : MB := (.cons (.ife (.cmp .isin (.var 3) (.tup (.cons (.str w_var) (.cons (.str w_set) .nil)))) c_with_own_9 .nil) c_with_own_8)
def c_with_own_11 : MB := (.cons (.asg (.name 3) (.ix (.var 0) (.int 0))) c_with_own_10)
def b_with_own : MB := c_with_own_11
def m_with_own : MF := ⟨3, 4, b_with_own⟩
def c_all_statements_0 : MB := (.cons (.ret (.var 1)) .nil)
def c_all_statements_1 : MB := (.cons (.expr (.meth .extend (.var 1) (.cons (.call 5 (.cons (.var 3) .nil)) .nil))) .nil)
def c_all_statements_2 : MB := (.cons (.forr (.name 3) (.seq (.call 3 (.cons (.var 2) .nil))) c_all_statements_1) .nil)
def c_all_statements_3 : MB := (.cons (.expr (.meth .append (.var 1) (.cons (.var 2) .nil))) c_all_statements_2)
def c_all_statements_4 : MB := (.cons (.forr (.name 2) (.seq (.var 0)) c_all_statements_3) c_all_statements_0)
def c_all_statements_5 : MB := (.cons (.asg (.name 1) (.lst .nil)) c_all_statements_4)
def b_all_statements : MB := c_all_statements_5
def m_all_statements : MF := ⟨1, 4, b_all_statements⟩
def c_only_signs_0 : MB := (.cons (.ret (.bl true)) .nil)
def c_only_signs_1 : MB := (.cons (.ret (.bl false)) .nil)
def c_only_signs_2 : MB := (.cons (.ife (.cmp .notin (.var 2) (.var 1)) c_only_signs_1 .nil) .nil)
def c_only_signs_3 : MB := (.cons (.forr (.name 2) (.seq (.var 0)) c_only_signs_2) c_only_signs_0)
def b_only_signs : MB := c_only_signs_3
def m_only_signs : MF := ⟨2, 3, b_only_signs⟩
def c_is_name_0 : MB := (.cons (.ret (.and (.cmp .isin (.ix (.var 0) (.int 0)) (.gl 3)) (.call 6 (.cons (.var 0) (.cons (.bin .add (.gl 3) (.gl 2)) .nil))))) .nil)
def c_is_name_1 : MB := (.cons (.ret (.bl false)) .nil)
def c_is_name_2 : MB := (.cons (.ife (.or (.not (.isi (.var 0) [.str])) (.or (.not (.chain .le .le (.int 1) (.blt .len (.cons (.var 0) .nil)) (.gl 1))) (.cmp .isin (.var 0) (.gl 4)))) c_is_name_1 .nil) c_is_name_0)
def b_is_name : MB := c_is_name_2
def m_is_name : MF := ⟨1, 1, b_is_name⟩
def c_part_names_0 : MB := (.cons (.ret (.blt .tuple (.cons (.bin .add (.bin .add (.bin .add (.var 1) (.var 2)) (.lc (.bin .add (.str w_on_) (.blt .str (.cons (.var 6) .nil))) (.tup [6, 7]) (.seq (.ix (.var 0) (.int 2))) .none)) (.lst (.cons (.str w_main) .nil))) .nil))) .nil)
def c_part_names_1 : MB := (.cons (.asg (.name 2) (.lc (.bin .add (.str w_fun_) (.ix (.var 5) (.int 0))) (.name 5) (.seq (.ix (.var 0) (.int 1))) .none)) c_part_names_0)
def c_part_names_2 : MB := (.cons (.asg (.name 1) (.lc (.bin .add (.str w_cell_) (.var 3)) (.tup [3, 4]) (.seq (.ix (.var 0) (.int 0))) .none)) c_part_names_1)
def b_part_names : MB := c_part_names_2
def m_part_names : MF := ⟨1, 8, b_part_names⟩
def c_part_number_0 : MB := (.cons (.ret (.ife (.and (.isi (.var 1) [.str]) (.cmp .isin (.var 1) (.var 2))) (.meth .index (.var 2) (.cons (.var 1) .nil)) (.neg (.int 1)))) .nil)
def c_part_number_1 : MB := (.cons (.asg (.name 2) (.call 8 (.cons (.var 0) .nil))) c_part_number_0)
def b_part_number : MB := c_part_number_1
def m_part_number : MF := ⟨2, 3, b_part_number⟩
def c_locals_of_0 : MB := (.cons (.ret (.blt .tuple (.cons (.lc (.ix (.var 1) (.int 1)) (.name 1) (.seq (.call 5 (.cons (.var 0) .nil))) (.some (.cmp .eq (.ix (.var 1) (.int 0)) (.str w_var)))) .nil))) .nil)
def b_locals_of : MB := c_locals_of_0
def m_locals_of : MF := ⟨1, 2, b_locals_of⟩
def c_turned_expression_0 : MB := (.cons (.ret (.call 1 (.cons (.var 0) (.cons (.var 3) .nil)))) .nil)
def c_turned_expression_1 : MB := (.cons (.ret (.tup (.cons (.str w_call) (.cons (.dget (.var 2) (.ix (.var 0) (.int 1)) (.ix (.var 0) (.int 1))) (.cons (.blt .tuple (.cons (.var 3) .nil)) .nil))))) .nil)
def c_turned_expression_2 : MB := (.cons (.ife (.cmp .eq (.ix (.var 0) (.int 0)) (.str w_call)) c_turned_expression_1 .nil) c_turned_expression_0)
def c_turned_expression_3 : MB := (.cons (.asg (.name 3) (.lc (.call 11 (.cons (.var 4) (.cons (.var 1) (.cons (.var 2) .nil)))) (.name 4) (.seq (.call 0 (.cons (.var 0) .nil))) .none)) c_turned_expression_2)
def c_turned_expression_4 : MB := (.cons (.ret (.tup (.cons (.str w_name) (.cons (.dget (.var 1) (.ix (.var 0) (.int 1)) (.ix (.var 0) (.int 1))) .nil)))) .nil)
def c_turned_expression_5 : MB := (.cons (.ife (.cmp .eq (.ix (.var 0) (.int 0)) (.str w_name)) c_turned_expression_4 .nil) c_turned_expression_3)
def b_turned_expression : MB := c_turned_expression_5
def m_turned_expression : MF := ⟨3, 5, b_turned_expression⟩
def c_turned_names_0 : MB := (.cons (.ret (.blt .tuple (.cons (.var 3) .nil))) .nil)
def c_turned_names_1 : MB := (.cons (.expr (.meth .append (.var 3) (.cons (.tup (.cons (.ix (.var 4) (.int 0)) (.cons (.dget (.var 1) (.ix (.var 4) (.int 1)) (.ix (.var 4) (.int 1))) (.cons (.ix (.var 5) (.int 0)) .nil)))) .nil))) .nil)
def c_turned_names_2 : MB := (.cons (.expr (.meth .append (.var 3) (.cons (.tup (.cons (.str w_call) (.cons (.dget (.var 2) (.ix (.var 4) (.int 1)) (.ix (.var 4) (.int 1))) (.cons (.blt .tuple (.cons (.var 5) .nil)) .nil)))) .nil))) .nil)
def c_turned_names_3 : MB := (.cons (.expr (.meth .append (.var 3) (.cons (.call 4 (.cons (.var 4) (.cons (.var 5) (.cons (.var 6) .nil)))) .nil))) .nil)
def c_turned_names_4 : MB := (.cons (.ife (.cmp .eq (.ix (.var 4) (.int 0)) (.str w_call)) c_turned_names_2 c_turned_names_3) .nil)
def c_turned_names_5 : MB := (.cons (.ife (.cmp .isin (.ix (.var 4) (.int 0)) (.tup (.cons (.str w_var) (.cons (.str w_set) .nil)))) c_turned_names_1 c_turned_names_4) .nil)
def c_turned_names_6 : MB := (.cons (.asg (.name 6) (.lc (.call 12 (.cons (.var 8) (.cons (.var 1) (.cons (.var 2) .nil)))) (.name 8) (.seq (.call 3 (.cons (.var 4) .nil))) .none)) c_turned_names_5)
def c_turned_names_7 : MB := (.cons (.asg (.name 5) (.lc (.call 11 (.cons (.var 7) (.cons (.var 1) (.cons (.var 2) .nil)))) (.name 7) (.seq (.call 2 (.cons (.var 4) .nil))) .none)) c_turned_names_6)
def c_turned_names_8 : MB := (.cons (.forr (.name 4) (.seq (.var 0)) c_turned_names_7) c_turned_names_0)
def c_turned_names_9 : MB := (.cons (.asg (.name 3) (.lst .nil)) c_turned_names_8)
def b_turned_names : MB := c_turned_names_9
def m_turned_names : MF := ⟨3, 9, b_turned_names⟩
def c_parameters_and_block_0 : MB := (.cons (.ret (.tup (.cons (.tup .nil) (.cons (.ife (.cmp .lt (.var 6) (.blt .len (.cons (.var 4) .nil))) (.ix (.ix (.var 4) (.var 6)) (.int 1)) (.var 5)) .nil)))) .nil)
def c_parameters_and_block_1 : MB := (.cons (.aug 6 .sub (.blt .len (.cons (.var 3) .nil))) c_parameters_and_block_0)
def c_parameters_and_block_2 : MB := (.cons (.ret (.tup (.cons (.ix (.ix (.var 3) (.var 6)) (.int 1)) (.cons (.ix (.ix (.var 3) (.var 6)) (.int 2)) .nil)))) .nil)
def c_parameters_and_block_3 : MB := (.cons (.ife (.cmp .lt (.var 6) (.blt .len (.cons (.var 3) .nil))) c_parameters_and_block_2 .nil) c_parameters_and_block_1)
def c_parameters_and_block_4 : MB := (.cons (.asg (.name 6) (.bin .sub (.var 1) (.blt .len (.cons (.var 2) .nil)))) c_parameters_and_block_3)
def c_parameters_and_block_5 : MB := (.cons (.asg (.tup [2, 3, 4, 5]) (.var 0)) c_parameters_and_block_4)
def b_parameters_and_block : MB := c_parameters_and_block_5
def m_parameters_and_block : MF := ⟨2, 7, b_parameters_and_block⟩
def c_with_part_0 : MB := (.cons (.ret (.tup (.cons (.var 4) (.cons (.var 5) (.cons (.var 6) (.cons (.var 3) .nil)))))) .nil)
def c_with_part_1 : MB := (.cons (.ret (.tup (.cons (.var 4) (.cons (.var 5) (.cons (.bin .add (.bin .add (.sl (.var 6) .none (.some (.var 8))) (.tup (.cons (.tup (.cons (.ix (.ix (.var 6) (.var 8)) (.int 0)) (.cons (.var 3) .nil))) .nil))) (.sl (.var 6) (.some (.bin .add (.var 8) (.int 1))) .none)) (.cons (.var 7) .nil)))))) .nil)
def c_with_part_2 : MB := (.cons (.ife (.cmp .lt (.var 8) (.blt .len (.cons (.var 6) .nil))) c_with_part_1 .nil) c_with_part_0)
def c_with_part_3 : MB := (.cons (.aug 8 .sub (.blt .len (.cons (.var 5) .nil))) c_with_part_2)
def c_with_part_4 : MB := (.cons (.ret (.tup (.cons (.var 4) (.cons (.bin .add (.bin .add (.sl (.var 5) .none (.some (.var 8))) (.tup (.cons (.tup (.cons (.ix (.ix (.var 5) (.var 8)) (.int 0)) (.cons (.var 2) (.cons (.var 3) .nil)))) .nil))) (.sl (.var 5) (.some (.bin .add (.var 8) (.int 1))) .none)) (.cons (.var 6) (.cons (.var 7) .nil)))))) .nil)
def c_with_part_5 : MB := (.cons (.ife (.cmp .lt (.var 8) (.blt .len (.cons (.var 5) .nil))) c_with_part_4 .nil) c_with_part_3)
def c_with_part_6 : MB := (.cons (.asg (.name 8) (.bin .sub (.var 1) (.blt .len (.cons (.var 4) .nil)))) c_with_part_5)
def c_with_part_7 : MB := (.cons (.asg (.tup [4, 5, 6, 7]) (.var 0)) c_with_part_6)
def b_with_part : MB := c_with_part_7
def m_with_part : MF := ⟨4, 9, b_with_part⟩
def c_look_at_pairs_0 : MB := (.cons (.rse w_BadStep [w_word] (.cons (.str w_name) .nil)) .nil)
def c_look_at_pairs_1 : MB := (.cons (.ife (.or (.not (.isi (.var 3) [.str])) (.or (.cmp .notin (.var 3) (.var 0)) (.or (.cmp .gt (.meth .count (.var 2) (.cons (.var 3) .nil)) (.int 1)) (.not (.call 7 (.cons (.var 4) .nil)))))) c_look_at_pairs_0 .nil) .nil)
def c_look_at_pairs_2 : MB := (.cons (.forr (.tup [3, 4]) (.seq (.var 1)) c_look_at_pairs_1) .nil)
def c_look_at_pairs_3 : MB := (.cons (.asg (.name 2) (.lc (.var 3) (.tup [3, 4]) (.seq (.var 1)) .none)) c_look_at_pairs_2)
def b_look_at_pairs : MB := c_look_at_pairs_3
def m_look_at_pairs : MF := ⟨2, 5, b_look_at_pairs⟩
def c_renamed_locals_0 : MB := (.cons (.ret (.call 14 (.cons (.var 0) (.cons (.var 3) (.cons (.blt .tuple (.cons (.sl (.var 8) .none (.some (.blt .len (.cons (.var 4) .nil)))) .nil)) (.cons (.call 12 (.cons (.var 5) (.cons (.var 7) (.cons .dnew .nil)))) .nil)))))) .nil)
def c_renamed_locals_1 : MB := (.cons (.rse w_BadStep [w_word] (.cons (.str w_taken) .nil)) .nil)
def c_renamed_locals_2 : MB := (.cons (.ife (.or (.cmp .lt (.lset (.var 8)) (.blt .len (.cons (.var 8) .nil))) (.cmp .gt (.blt .len (.cons (.lc (.var 9) (.tup [9, 10]) (.seq (.ix (.var 0) (.int 0))) (.some (.cmp .isin (.var 9) (.var 8)))) .nil)) (.int 0))) c_renamed_locals_1 .nil) c_renamed_locals_0)
def c_renamed_locals_3 : MB := (.cons (.asg (.name 8) (.lc (.dget (.var 7) (.var 9) (.var 9)) (.name 9) (.seq (.var 6)) .none)) c_renamed_locals_2)
def c_renamed_locals_4 : MB := (.cons (.asg (.name 7) (.blt .dict (.cons (.var 2) .nil))) c_renamed_locals_3)
def c_renamed_locals_5 : MB := (.cons (.expr (.call 15 (.cons (.var 6) (.cons (.var 2) .nil)))) c_renamed_locals_4)
def c_renamed_locals_6 : MB := (.cons (.asg (.name 6) (.bin .add (.blt .list (.cons (.var 4) .nil)) (.blt .list (.cons (.call 10 (.cons (.var 5) .nil)) .nil)))) c_renamed_locals_5)
def c_renamed_locals_7 : MB := (.cons (.asg (.tup [4, 5]) (.call 13 (.cons (.var 0) (.cons (.var 3) .nil)))) c_renamed_locals_6)
def c_renamed_locals_8 : MB := (.cons (.rse w_BadStep [w_word] (.cons (.str w_part) .nil)) .nil)
def c_renamed_locals_9 : MB := (.cons (.ife (.cmp .lt (.var 3) (.blt .len (.cons (.ix (.var 0) (.int 0)) .nil))) c_renamed_locals_8 .nil) c_renamed_locals_7)
def c_renamed_locals_10 : MB := (.cons (.asg (.name 3) (.call 9 (.cons (.var 0) (.cons (.var 1) .nil)))) c_renamed_locals_9)
def b_renamed_locals : MB := c_renamed_locals_10
def m_renamed_locals : MF := ⟨3, 11, b_renamed_locals⟩
def c_law_pool_0 : MB := (.cons (.ret (.lst (.cons (.lc (.blt .abs (.cons (.blt .int (.cons (.var 1) .nil)) .nil)) (.name 1) (.seq (.var 0)) .none) (.cons (.int 0) (.cons (.int 0) (.cons (.int 70877) (.cons (.int 0) .nil))))))) .nil)
def b_law_pool : MB := c_law_pool_0
def m_law_pool : MF := ⟨1, 2, b_law_pool⟩
def c_law_take_0 : MB := (.cons (.ret (.var 2)) .nil)
def c_law_take_1 : MB := (.cons (.asg (.sub (.var 0) (.int 3)) (.bin .mod (.bin .add (.bin .add (.ix (.var 0) (.int 3)) (.bin .mul (.int 41) (.var 2))) (.var 1)) (.int 2147483563))) c_law_take_0)
def c_law_take_2 : MB := (.cons (.asg (.sub (.var 0) (.int 2)) (.bin .fdiv (.ix (.var 0) (.int 2)) (.var 1))) .nil)
def c_law_take_3 : MB := (.cons (.asg (.name 2) (.bin .mod (.ix (.var 0) (.int 2)) (.var 1))) c_law_take_2)
def c_law_take_4 : MB := (.cons (.asg (.name 2) (.bin .mod (.bin .fdiv (.ix (.var 0) (.int 3)) (.int 89)) (.var 1))) .nil)
def c_law_take_5 : MB := (.cons (.asg (.sub (.var 0) (.int 3)) (.bin .mod (.bin .add (.bin .mul (.ix (.var 0) (.int 3)) (.int 5077)) (.int 7433)) (.int 2147483563))) c_law_take_4)
def c_law_take_6 : MB := (.cons (.ife (.cmp .gt (.ix (.var 0) (.int 2)) (.int 0)) c_law_take_3 c_law_take_5) c_law_take_1)
def c_law_take_7 : MB := (.cons (.asg (.sub (.var 0) (.int 1)) (.bin .add (.ix (.var 0) (.int 1)) (.int 1))) .nil)
def c_law_take_8 : MB := (.cons (.asg (.sub (.var 0) (.int 2)) (.ix (.ix (.var 0) (.int 0)) (.ix (.var 0) (.int 1)))) c_law_take_7)
def c_law_take_9 : MB := (.cons (.whl (.and (.cmp .eq (.ix (.var 0) (.int 2)) (.int 0)) (.cmp .lt (.ix (.var 0) (.int 1)) (.blt .len (.cons (.ix (.var 0) (.int 0)) .nil)))) c_law_take_8) c_law_take_6)
def b_law_take : MB := c_law_take_9
def m_law_take : MF := ⟨2, 3, b_law_take⟩
def c_law_same_0 : MB := (.cons (.ret (.bl true)) .nil)
def c_law_same_1 : MB := (.cons (.ret (.bl false)) .nil)
def c_law_same_2 : MB := (.cons (.ife (.cmp .isnot (.var 3) .non) c_law_same_1 .nil) .nil)
def c_law_same_3 : MB := (.cons (.ret (.bl false)) .nil)
def c_law_same_4 : MB := (.cons (.ife (.or (.not (.isi (.var 3) [.bool])) (.cmp .ne (.var 3) (.var 4))) c_law_same_3 .nil) .nil)
def c_law_same_5 : MB := (.cons (.ret (.bl false)) .nil)
def c_law_same_6 : MB := (.cons (.ife (.or (.isi (.var 3) [.bool]) (.or (.not (.isi (.var 3) [.int])) (.cmp .ne (.var 3) (.var 4)))) c_law_same_5 .nil) .nil)
def c_law_same_7 : MB := (.cons (.ret (.bl false)) .nil)
def c_law_same_8 : MB := (.cons (.ife (.or (.not (.isi (.var 3) [.str])) (.cmp .ne (.var 3) (.var 4))) c_law_same_7 .nil) .nil)
def c_law_same_9 : MB := (.cons (.expr (.meth .extend (.var 2) (.cons (.lc (.tup (.cons (.ix (.var 3) (.var 5)) (.cons (.ix (.var 4) (.var 5)) .nil))) (.name 5) (.rng1 (.blt .len (.cons (.var 4) .nil))) .none) .nil))) .nil)
def c_law_same_10 : MB := (.cons (.ret (.bl false)) .nil)
def c_law_same_11 : MB := (.cons (.ife (.or (.not (.isi (.var 3) [.tuple])) (.cmp .ne (.blt .len (.cons (.var 3) .nil)) (.blt .len (.cons (.var 4) .nil)))) c_law_same_10 .nil) c_law_same_9)
def c_law_same_12 : MB := (.cons (.ife (.isi (.var 4) [.str]) c_law_same_8 c_law_same_11) .nil)
def c_law_same_13 : MB := (.cons (.ife (.isi (.var 4) [.int]) c_law_same_6 c_law_same_12) .nil)
def c_law_same_14 : MB := (.cons (.ife (.isi (.var 4) [.bool]) c_law_same_4 c_law_same_13) .nil)
def c_law_same_15 : MB := (.cons (.ife (.cmp .is (.var 4) .non) c_law_same_2 c_law_same_14) .nil)
def c_law_same_16 : MB := (.cons (.asg (.tup [3, 4]) (.meth .pop (.var 2) .nil)) c_law_same_15)
def c_law_same_17 : MB := (.cons (.whl (.cmp .gt (.blt .len (.cons (.var 2) .nil)) (.int 0)) c_law_same_16) c_law_same_0)
def c_law_same_18 : MB := (.cons (.asg (.name 2) (.lst (.cons (.tup (.cons (.var 0) (.cons (.var 1) .nil))) .nil))) c_law_same_17)
def b_law_same : MB := c_law_same_18
def m_law_same : MF := ⟨2, 6, b_law_same⟩
def c_law_name_0 : MB := (.cons (.ret (.bin .add (.bin .add (.ix (.var 1) (.call 18 (.cons (.var 0) (.cons (.int 26) .nil)))) (.blt .str (.cons (.ix (.var 0) (.int 4)) .nil))) (.ix (.tup (.cons (.str w_) (.cons (.str w_) (.cons (.str w_q) (.cons (.str w_a0) .nil))))) (.call 18 (.cons (.var 0) (.cons (.int 4) .nil)))))) .nil)
def c_law_name_1 : MB := (.cons (.asg (.sub (.var 0) (.int 4)) (.bin .add (.ix (.var 0) (.int 4)) (.int 1))) c_law_name_0)
def c_law_name_2 : MB := (.cons (.asg (.name 1) (.str w_abcdefghijklmnopqrstuvwxyz)) c_law_name_1)
def b_law_name : MB := c_law_name_2
def m_law_name : MF := ⟨1, 2, b_law_name⟩
def c_law_expression_0 : MB := (.cons (.ret (.tup (.cons (.var 7) (.cons (.call 21 (.cons (.var 0) (.cons (.var 1) (.cons (.var 2) (.cons (.bin .sub (.var 3) (.int 1)) .nil))))) (.cons (.call 21 (.cons (.var 0) (.cons (.var 1) (.cons (.var 2) (.cons (.bin .sub (.var 3) (.int 1)) .nil))))) .nil))))) .nil)
def c_law_expression_1 : MB := (.cons (.asg (.name 7) (.ix (.tup (.cons (.str w_add) (.cons (.str w_sub) (.cons (.str w_mul) (.cons (.str w_less) (.cons (.str w_same) .nil)))))) (.call 18 (.cons (.var 0) (.cons (.int 5) .nil))))) c_law_expression_0)
def c_law_expression_2 : MB := (.cons (.ret (.tup (.cons (.str w_call) (.cons (.var 5) (.cons (.blt .tuple (.cons (.lc (.call 21 (.cons (.var 0) (.cons (.var 1) (.cons (.var 2) (.cons (.bin .sub (.var 3) (.int 1)) .nil))))) (.name 8) (.rng1 (.var 6)) .none) .nil)) .nil))))) .nil)
def c_law_expression_3 : MB := (.cons (.asg (.tup [5, 6]) (.ix (.var 2) (.call 18 (.cons (.var 0) (.cons (.blt .len (.cons (.var 2) .nil)) .nil))))) c_law_expression_2)
def c_law_expression_4 : MB := (.cons (.ife (.and (.cmp .eq (.var 4) (.int 8)) (.cmp .gt (.blt .len (.cons (.var 2) .nil)) (.int 0))) c_law_expression_3 .nil) c_law_expression_1)
def c_law_expression_5 : MB := (.cons (.ret (.tup (.cons (.str w_in) .nil))) .nil)
def c_law_expression_6 : MB := (.cons (.ife (.cmp .eq (.var 4) (.int 2)) c_law_expression_5 .nil) c_law_expression_4)
def c_law_expression_7 : MB := (.cons (.ret (.tup (.cons (.str w_name) (.cons (.ix (.var 1) (.call 18 (.cons (.var 0) (.cons (.blt .len (.cons (.var 1) .nil)) .nil)))) .nil)))) .nil)
def c_law_expression_8 : MB := (.cons (.ife (.cmp .lt (.var 4) (.int 2)) c_law_expression_7 .nil) c_law_expression_6)
def c_law_expression_9 : MB := (.cons (.ret (.tup (.cons (.str w_number) (.cons (.ix (.tup (.cons (.int 0) (.cons (.int 1) (.cons (.int 65535) (.cons (.call 18 (.cons (.var 0) (.cons (.int 65536) .nil))) (.cons (.call 18 (.cons (.var 0) (.cons (.int 300) .nil))) .nil)))))) (.call 18 (.cons (.var 0) (.cons (.int 5) .nil)))) .nil)))) .nil)
def c_law_expression_10 : MB := (.cons (.ife (.or (.cmp .eq (.var 4) (.int 0)) (.and (.cmp .eq (.var 4) (.int 1)) (.cmp .eq (.blt .len (.cons (.var 1) .nil)) (.int 0)))) c_law_expression_9 .nil) c_law_expression_8)
def c_law_expression_11 : MB := (.cons (.asg (.name 4) (.ife (.cmp .gt (.var 3) (.int 0)) (.call 18 (.cons (.var 0) (.cons (.int 9) .nil))) (.call 18 (.cons (.var 0) (.cons (.int 3) .nil))))) c_law_expression_10)
def b_law_expression : MB := c_law_expression_11
def m_law_expression : MF := ⟨4, 9, b_law_expression⟩
def c_law_block_0 : MB := (.cons (.ret (.blt .tuple (.cons (.var 7) .nil))) .nil)
def c_law_block_1 : MB := (.cons (.expr (.meth .append (.var 6) (.cons (.var 11) .nil))) .nil)
def c_law_block_2 : MB := (.cons (.expr (.meth .append (.var 7) (.cons (.tup (.cons (.str w_var) (.cons (.var 11) (.cons (.var 10) .nil)))) .nil))) c_law_block_1)
def c_law_block_3 : MB := (.cons (.asg (.name 11) (.call 20 (.cons (.var 0) .nil))) c_law_block_2)
def c_law_block_4 : MB := (.cons (.expr (.meth .append (.var 7) (.cons (.tup (.cons (.str w_set) (.cons (.ix (.var 6) (.call 18 (.cons (.var 0) (.cons (.blt .len (.cons (.var 6) .nil)) .nil)))) (.cons (.var 10) .nil)))) .nil))) .nil)
def c_law_block_5 : MB := (.cons (.expr (.meth .append (.var 7) (.cons (.tup (.cons (.str w_call) (.cons (.var 12) (.cons (.blt .tuple (.cons (.lc (.call 21 (.cons (.var 0) (.cons (.var 6) (.cons (.var 3) (.cons (.int 1) .nil))))) (.name 14) (.rng1 (.var 13)) .none) .nil)) .nil)))) .nil))) .nil)
def c_law_block_6 : MB := (.cons (.asg (.tup [12, 13]) (.ix (.var 3) (.call 18 (.cons (.var 0) (.cons (.blt .len (.cons (.var 3) .nil)) .nil))))) c_law_block_5)
def c_law_block_7 : MB := (.cons (.expr (.meth .append (.var 7) (.cons (.tup (.cons (.str w_if) (.cons (.var 10) (.cons (.call 22 (.cons (.var 0) (.cons (.var 1) (.cons (.var 6) (.cons (.var 3) (.cons (.bin .sub (.var 4) (.int 1)) (.cons (.var 5) .nil))))))) (.cons (.call 22 (.cons (.var 0) (.cons (.var 1) (.cons (.var 6) (.cons (.var 3) (.cons (.bin .sub (.var 4) (.int 1)) (.cons (.var 5) .nil))))))) .nil))))) .nil))) .nil)
def c_law_block_8 : MB := (.cons (.expr (.meth .append (.var 7) (.cons (.tup (.cons (.str w_while) (.cons (.var 10) (.cons (.call 22 (.cons (.var 0) (.cons (.var 1) (.cons (.var 6) (.cons (.var 3) (.cons (.bin .sub (.var 4) (.int 1)) (.cons (.var 5) .nil))))))) .nil)))) .nil))) .nil)
def c_law_block_9 : MB := (.cons (.expr (.meth .append (.var 7) (.cons (.tup (.cons (.str w_hold) (.cons (.call 22 (.cons (.var 0) (.cons (.var 1) (.cons (.var 6) (.cons (.var 3) (.cons (.bin .sub (.var 4) (.int 1)) (.cons (.bl true) .nil))))))) .nil))) .nil))) .nil)
def c_law_block_10 : MB := (.cons (.expr (.meth .append (.var 7) (.cons (.tup (.cons (.str w_return) (.cons (.var 10) .nil))) .nil))) .nil)
def c_law_block_11 : MB := (.cons (.expr (.meth .append (.var 7) (.cons (.tup (.cons (.str w_out) (.cons (.var 10) .nil))) .nil))) .nil)
def c_law_block_12 : MB := (.cons (.ife (.and (.cmp .eq (.var 9) (.int 6)) (.and (.cmp .eq (.var 1) (.str w_fun)) (.not (.var 5)))) c_law_block_10 c_law_block_11) .nil)
def c_law_block_13 : MB := (.cons (.ife (.and (.cmp .eq (.var 9) (.int 5)) (.cmp .gt (.var 4) (.int 0))) c_law_block_9 c_law_block_12) .nil)
def c_law_block_14 : MB := (.cons (.ife (.and (.cmp .eq (.var 9) (.int 4)) (.cmp .gt (.var 4) (.int 0))) c_law_block_8 c_law_block_13) .nil)
def c_law_block_15 : MB := (.cons (.ife (.and (.cmp .eq (.var 9) (.int 3)) (.cmp .gt (.var 4) (.int 0))) c_law_block_7 c_law_block_14) .nil)
def c_law_block_16 : MB := (.cons (.ife (.and (.cmp .eq (.var 9) (.int 2)) (.cmp .gt (.blt .len (.cons (.var 3) .nil)) (.int 0))) c_law_block_6 c_law_block_15) .nil)
def c_law_block_17 : MB := (.cons (.ife (.and (.cmp .eq (.var 9) (.int 1)) (.cmp .gt (.blt .len (.cons (.var 6) .nil)) (.int 0))) c_law_block_4 c_law_block_16) .nil)
def c_law_block_18 : MB := (.cons (.ife (.cmp .eq (.var 9) (.int 0)) c_law_block_3 c_law_block_17) .nil)
def c_law_block_19 : MB := (.cons (.asg (.name 10) (.call 21 (.cons (.var 0) (.cons (.var 6) (.cons (.var 3) (.cons (.int 2) .nil)))))) c_law_block_18)
def c_law_block_20 : MB := (.cons (.asg (.name 9) (.call 18 (.cons (.var 0) (.cons (.int 8) .nil)))) c_law_block_19)
def c_law_block_21 : MB := (.cons (.forr (.name 8) (.rng1 (.ife (.cmp .lt (.var 4) (.int 3)) (.call 18 (.cons (.var 0) (.cons (.int 4) .nil))) (.bin .add (.int 1) (.call 18 (.cons (.var 0) (.cons (.int 4) .nil)))))) c_law_block_20) c_law_block_0)
def c_law_block_22 : MB := (.cons (.asg (.name 7) (.lst .nil)) c_law_block_21)
def c_law_block_23 : MB := (.cons (.asg (.name 6) (.blt .list (.cons (.var 2) .nil))) c_law_block_22)
def b_law_block : MB := c_law_block_23
def m_law_block : MF := ⟨6, 15, b_law_block⟩
def c_law_tree_0 : MB := (.cons (.ret (.tup (.cons (.blt .tuple (.cons (.var 2) .nil)) (.cons (.blt .tuple (.cons (.var 4) .nil)) (.cons (.blt .tuple (.cons (.var 10) .nil)) (.cons (.call 22 (.cons (.var 0) (.cons (.str w_main) (.cons (.var 3) (.cons (.var 5) (.cons (.int 3) (.cons (.bl false) .nil))))))) .nil)))))) .nil)
def c_law_tree_1 : MB := (.cons (.asg (.name 10) (.lc (.tup (.cons (.var 13) (.cons (.call 22 (.cons (.var 0) (.cons (.str w_on) (.cons (.var 3) (.cons (.var 5) (.cons (.int 2) (.cons (.bl false) .nil))))))) .nil))) (.name 13) (.seq (.var 9)) .none)) c_law_tree_0)
def c_law_tree_2 : MB := (.cons (.asg (.name 9) (.rev (.var 9))) .nil)
def c_law_tree_3 : MB := (.cons (.ife (.cmp .eq (.call 18 (.cons (.var 0) (.cons (.int 2) .nil))) (.int 0)) c_law_tree_2 .nil) c_law_tree_1)
def c_law_tree_4 : MB := (.cons (.asg (.name 9) (.lc (.var 13) (.name 13) (.seq (.tup (.cons (.int 1) (.cons (.int 2) (.cons (.int 3) (.cons (.int 4) .nil)))))) (.some (.cmp .eq (.call 18 (.cons (.var 0) (.cons (.int 3) .nil))) (.int 0))))) c_law_tree_3)
def c_law_tree_5 : MB := (.cons (.asg (.name 4) (.rev (.var 4))) .nil)
def c_law_tree_6 : MB := (.cons (.ife (.cmp .eq (.call 18 (.cons (.var 0) (.cons (.int 2) .nil))) (.int 0)) c_law_tree_5 .nil) c_law_tree_4)
def c_law_tree_7 : MB := (.cons (.expr (.meth .append (.var 5) (.cons (.tup (.cons (.var 8) (.cons (.blt .len (.cons (.var 7) .nil)) .nil))) .nil))) .nil)
def c_law_tree_8 : MB := (.cons (.expr (.meth .append (.var 4) (.cons (.tup (.cons (.var 8) (.cons (.blt .tuple (.cons (.var 7) .nil)) (.cons (.call 22 (.cons (.var 0) (.cons (.str w_fun) (.cons (.bin .add (.var 3) (.var 7)) (.cons (.sl (.var 5) .none .none) (.cons (.int 2) (.cons (.bl false) .nil))))))) .nil)))) .nil))) c_law_tree_7)
def c_law_tree_9 : MB := (.cons (.asg (.name 8) (.call 20 (.cons (.var 0) .nil))) c_law_tree_8)
def c_law_tree_10 : MB := (.cons (.asg (.name 7) (.lc (.call 20 (.cons (.var 0) .nil)) (.name 12) (.rng1 (.call 18 (.cons (.var 0) (.cons (.int 4) .nil)))) .none)) c_law_tree_9)
def c_law_tree_11 : MB := (.cons (.forr (.name 6) (.rng1 (.call 18 (.cons (.var 0) (.cons (.bin .add (.var 1) (.int 1)) .nil)))) c_law_tree_10) c_law_tree_6)
def c_law_tree_12 : MB := (.cons (.asg (.name 5) (.lst .nil)) c_law_tree_11)
def c_law_tree_13 : MB := (.cons (.asg (.name 4) (.lst .nil)) c_law_tree_12)
def c_law_tree_14 : MB := (.cons (.asg (.name 3) (.lc (.var 8) (.tup [8, 11]) (.seq (.var 2)) .none)) c_law_tree_13)
def c_law_tree_15 : MB := (.cons (.asg (.name 2) (.lc (.tup (.cons (.call 20 (.cons (.var 0) .nil)) (.cons (.call 18 (.cons (.var 0) (.cons (.int 65536) .nil))) .nil))) (.name 6) (.rng1 (.call 18 (.cons (.var 0) (.cons (.int 4) .nil)))) .none)) c_law_tree_14)
def b_law_tree : MB := c_law_tree_15
def m_law_tree : MF := ⟨2, 14, b_law_tree⟩
def c_law_in_expression_0 : MB := (.cons (.ret (.tup (.cons (.ix (.var 0) (.int 0)) (.cons (.call 24 (.cons (.ix (.var 0) (.int 1)) (.cons (.var 1) (.cons (.var 2) .nil)))) (.cons (.call 24 (.cons (.ix (.var 0) (.int 2)) (.cons (.var 1) (.cons (.var 2) .nil)))) .nil))))) .nil)
def c_law_in_expression_1 : MB := (.cons (.ret (.var 0)) .nil)
def c_law_in_expression_2 : MB := (.cons (.ife (.or (.cmp .eq (.ix (.var 0) (.int 0)) (.str w_number)) (.cmp .eq (.ix (.var 0) (.int 0)) (.str w_in))) c_law_in_expression_1 .nil) c_law_in_expression_0)
def c_law_in_expression_3 : MB := (.cons (.ret (.tup (.cons (.str w_call) (.cons (.dget (.var 2) (.ix (.var 0) (.int 1)) (.ix (.var 0) (.int 1))) (.cons (.blt .tuple (.cons (.lc (.call 24 (.cons (.var 3) (.cons (.var 1) (.cons (.var 2) .nil)))) (.name 3) (.seq (.ix (.var 0) (.int 2))) .none) .nil)) .nil))))) .nil)
def c_law_in_expression_4 : MB := (.cons (.ife (.cmp .eq (.ix (.var 0) (.int 0)) (.str w_call)) c_law_in_expression_3 .nil) c_law_in_expression_2)
def c_law_in_expression_5 : MB := (.cons (.ret (.tup (.cons (.str w_name) (.cons (.dget (.var 1) (.ix (.var 0) (.int 1)) (.ix (.var 0) (.int 1))) .nil)))) .nil)
def c_law_in_expression_6 : MB := (.cons (.ife (.cmp .eq (.ix (.var 0) (.int 0)) (.str w_name)) c_law_in_expression_5 .nil) c_law_in_expression_4)
def b_law_in_expression : MB := c_law_in_expression_6
def m_law_in_expression : MF := ⟨3, 4, b_law_in_expression⟩
def c_law_in_block_0 : MB := (.cons (.ret (.blt .tuple (.cons (.var 3) .nil))) .nil)
def c_law_in_block_1 : MB := (.cons (.expr (.meth .append (.var 3) (.cons (.tup (.cons (.ix (.var 4) (.int 0)) (.cons (.dget (.var 1) (.ix (.var 4) (.int 1)) (.ix (.var 4) (.int 1))) (.cons (.call 24 (.cons (.ix (.var 4) (.int 2)) (.cons (.var 1) (.cons (.var 2) .nil)))) .nil)))) .nil))) .nil)
def c_law_in_block_2 : MB := (.cons (.expr (.meth .append (.var 3) (.cons (.call 24 (.cons (.var 4) (.cons (.var 1) (.cons (.var 2) .nil)))) .nil))) .nil)
def c_law_in_block_3 : MB := (.cons (.expr (.meth .append (.var 3) (.cons (.tup (.cons (.str w_if) (.cons (.call 24 (.cons (.ix (.var 4) (.int 1)) (.cons (.var 1) (.cons (.var 2) .nil)))) (.cons (.call 25 (.cons (.ix (.var 4) (.int 2)) (.cons (.var 1) (.cons (.var 2) .nil)))) (.cons (.call 25 (.cons (.ix (.var 4) (.int 3)) (.cons (.var 1) (.cons (.var 2) .nil)))) .nil))))) .nil))) .nil)
def c_law_in_block_4 : MB := (.cons (.expr (.meth .append (.var 3) (.cons (.tup (.cons (.str w_while) (.cons (.call 24 (.cons (.ix (.var 4) (.int 1)) (.cons (.var 1) (.cons (.var 2) .nil)))) (.cons (.call 25 (.cons (.ix (.var 4) (.int 2)) (.cons (.var 1) (.cons (.var 2) .nil)))) .nil)))) .nil))) .nil)
def c_law_in_block_5 : MB := (.cons (.expr (.meth .append (.var 3) (.cons (.tup (.cons (.str w_hold) (.cons (.call 25 (.cons (.ix (.var 4) (.int 1)) (.cons (.var 1) (.cons (.var 2) .nil)))) .nil))) .nil))) .nil)
def c_law_in_block_6 : MB := (.cons (.expr (.meth .append (.var 3) (.cons (.tup (.cons (.ix (.var 4) (.int 0)) (.cons (.call 24 (.cons (.ix (.var 4) (.int 1)) (.cons (.var 1) (.cons (.var 2) .nil)))) .nil))) .nil))) .nil)
def c_law_in_block_7 : MB := (.cons (.ife (.cmp .eq (.ix (.var 4) (.int 0)) (.str w_hold)) c_law_in_block_5 c_law_in_block_6) .nil)
def c_law_in_block_8 : MB := (.cons (.ife (.cmp .eq (.ix (.var 4) (.int 0)) (.str w_while)) c_law_in_block_4 c_law_in_block_7) .nil)
def c_law_in_block_9 : MB := (.cons (.ife (.cmp .eq (.ix (.var 4) (.int 0)) (.str w_if)) c_law_in_block_3 c_law_in_block_8) .nil)
def c_law_in_block_10 : MB := (.cons (.ife (.cmp .eq (.ix (.var 4) (.int 0)) (.str w_call)) c_law_in_block_2 c_law_in_block_9) .nil)
def c_law_in_block_11 : MB := (.cons (.ife (.or (.cmp .eq (.ix (.var 4) (.int 0)) (.str w_var)) (.cmp .eq (.ix (.var 4) (.int 0)) (.str w_set))) c_law_in_block_1 c_law_in_block_10) .nil)
def c_law_in_block_12 : MB := (.cons (.forr (.name 4) (.seq (.var 0)) c_law_in_block_11) c_law_in_block_0)
def c_law_in_block_13 : MB := (.cons (.asg (.name 3) (.lst .nil)) c_law_in_block_12)
def b_law_in_block : MB := c_law_in_block_13
def m_law_in_block : MF := ⟨3, 5, b_law_in_block⟩
def c_law_vars_0 : MB := (.cons (.ret (.var 1)) .nil)
def c_law_vars_1 : MB := (.cons (.expr (.meth .append (.var 1) (.cons (.ix (.var 2) (.int 1)) .nil))) .nil)
def c_law_vars_2 : MB := (.cons (.asg (.name 1) (.bin .add (.bin .add (.var 1) (.call 26 (.cons (.ix (.var 2) (.int 2)) .nil))) (.call 26 (.cons (.ix (.var 2) (.int 3)) .nil)))) .nil)
def c_law_vars_3 : MB := (.cons (.asg (.name 1) (.bin .add (.var 1) (.call 26 (.cons (.ix (.var 2) (.int 2)) .nil)))) .nil)
def c_law_vars_4 : MB := (.cons (.asg (.name 1) (.bin .add (.var 1) (.call 26 (.cons (.ix (.var 2) (.int 1)) .nil)))) .nil)
def c_law_vars_5 : MB := (.cons (.ife (.cmp .eq (.ix (.var 2) (.int 0)) (.str w_hold)) c_law_vars_4 .nil) .nil)
def c_law_vars_6 : MB := (.cons (.ife (.cmp .eq (.ix (.var 2) (.int 0)) (.str w_while)) c_law_vars_3 c_law_vars_5) .nil)
def c_law_vars_7 : MB := (.cons (.ife (.cmp .eq (.ix (.var 2) (.int 0)) (.str w_if)) c_law_vars_2 c_law_vars_6) .nil)
def c_law_vars_8 : MB := (.cons (.ife (.cmp .eq (.ix (.var 2) (.int 0)) (.str w_var)) c_law_vars_1 c_law_vars_7) .nil)
def c_law_vars_9 : MB := (.cons (.forr (.name 2) (.seq (.var 0)) c_law_vars_8) c_law_vars_0)
def c_law_vars_10 : MB := (.cons (.asg (.name 1) (.lst .nil)) c_law_vars_9)
def b_law_vars : MB := c_law_vars_10
def m_law_vars : MF := ⟨1, 3, b_law_vars⟩
def c_law_parts_0 : MB := (.cons (.ret (.bin .add (.var 5) (.lst (.cons (.tup (.cons (.str w_main) (.cons (.call 26 (.cons (.var 4) .nil)) .nil))) .nil)))) .nil)
def c_law_parts_1 : MB := (.cons (.asg (.name 5) (.bin .add (.var 5) (.lc (.tup (.cons (.bin .add (.str w_on_) (.blt .str (.cons (.var 9) .nil))) (.cons (.call 26 (.cons (.var 8) .nil)) .nil))) (.tup [9, 8]) (.seq (.var 3)) .none))) c_law_parts_0)
def c_law_parts_2 : MB := (.cons (.asg (.name 5) (.lc (.tup (.cons (.bin .add (.str w_fun_) (.var 6)) (.cons (.bin .add (.blt .list (.cons (.var 7) .nil)) (.call 26 (.cons (.var 8) .nil))) .nil))) (.tup [6, 7, 8]) (.seq (.var 2)) .none)) c_law_parts_1)
def c_law_parts_3 : MB := (.cons (.asg (.tup [1, 2, 3, 4]) (.var 0)) c_law_parts_2)
def b_law_parts : MB := c_law_parts_3
def m_law_parts : MF := ⟨1, 10, b_law_parts⟩
def c_law_due_0 : MB := (.cons (.ret (.tup (.cons (.var 3) (.cons (.blt .tuple (.cons (.var 7) .nil)) (.cons (.blt .tuple (.cons (.var 11) .nil)) (.cons (.ife (.cmp .eq (.var 1) (.str w_main)) (.call 25 (.cons (.var 6) (.cons (.var 2) (.cons .dnew .nil)))) (.var 6)) .nil)))))) .nil)
def c_law_due_1 : MB := (.cons (.asg (.name 11) (.lc (.tup (.cons (.var 13) (.cons (.ife (.cmp .eq (.bin .add (.str w_on_) (.blt .str (.cons (.var 13) .nil))) (.var 1)) (.call 25 (.cons (.var 10) (.cons (.var 2) (.cons .dnew .nil)))) (.var 10)) .nil))) (.tup [13, 10]) (.seq (.var 5)) .none)) c_law_due_0)
def c_law_due_2 : MB := (.cons (.expr (.meth .append (.var 7) (.cons (.tup (.cons (.var 8) (.cons (.blt .tuple (.cons (.lc (.dget (.var 2) (.var 12) (.var 12)) (.name 12) (.seq (.var 9)) .none) .nil)) (.cons (.call 25 (.cons (.var 10) (.cons (.var 2) (.cons .dnew .nil)))) .nil)))) .nil))) .nil)
def c_law_due_3 : MB := (.cons (.expr (.meth .append (.var 7) (.cons (.tup (.cons (.var 8) (.cons (.var 9) (.cons (.var 10) .nil)))) .nil))) .nil)
def c_law_due_4 : MB := (.cons (.ife (.cmp .eq (.bin .add (.str w_fun_) (.var 8)) (.var 1)) c_law_due_2 c_law_due_3) .nil)
def c_law_due_5 : MB := (.cons (.forr (.tup [8, 9, 10]) (.seq (.var 4)) c_law_due_4) c_law_due_1)
def c_law_due_6 : MB := (.cons (.asg (.name 7) (.lst .nil)) c_law_due_5)
def c_law_due_7 : MB := (.cons (.asg (.tup [3, 4, 5, 6]) (.var 0)) c_law_due_6)
def b_law_due : MB := c_law_due_7
def m_law_due : MF := ⟨3, 14, b_law_due⟩
def c_law_tried_0 : MB := (.cons (.ret (.tup (.cons (.str w_told) (.cons (.call 16 (.cons (.var 0) (.cons (.var 1) (.cons (.var 2) .nil)))) .nil)))) .nil)
def c_law_tried_1 : MB := (.cons (.tr c_law_tried_0 w_BadStep [w_BadStep] [] (some 3) (.tup [(.str w_refused), (.fld w_word)])) .nil)
def b_law_tried : MB := c_law_tried_1
def m_law_tried : MF := ⟨3, 4, b_law_tried⟩
def c_law_pairs_0 : MB := (.cons (.ret (.blt .tuple (.cons (.lc (.tup (.cons (.var 4) (.cons (.ix (.tup (.cons (.call 20 (.cons (.var 0) .nil)) (.cons (.var 4) .nil))) (.call 18 (.cons (.var 0) (.cons (.int 2) .nil)))) .nil))) (.name 4) (.seq (.var 2)) .none) .nil))) .nil)
def c_law_pairs_1 : MB := (.cons (.ret (.blt .tuple (.cons (.lc (.tup (.cons (.var 4) (.cons (.call 20 (.cons (.var 0) .nil)) .nil))) (.name 4) (.seq (.rev (.var 2))) .none) .nil))) .nil)
def c_law_pairs_2 : MB := (.cons (.ife (.cmp .eq (.var 3) (.int 1)) c_law_pairs_1 .nil) c_law_pairs_0)
def c_law_pairs_3 : MB := (.cons (.ret (.blt .tuple (.cons (.lc (.tup (.cons (.ix (.var 2) (.var 5)) (.cons (.ix (.var 2) (.bin .mod (.bin .add (.var 5) (.int 1)) (.blt .len (.cons (.var 2) .nil)))) .nil))) (.name 5) (.rng1 (.blt .len (.cons (.var 2) .nil))) .none) .nil))) .nil)
def c_law_pairs_4 : MB := (.cons (.ife (.cmp .eq (.var 3) (.int 0)) c_law_pairs_3 .nil) c_law_pairs_2)
def c_law_pairs_5 : MB := (.cons (.asg (.name 3) (.call 18 (.cons (.var 0) (.cons (.int 3) .nil)))) c_law_pairs_4)
def c_law_pairs_6 : MB := (.cons (.asg (.name 2) (.lc (.var 4) (.name 4) (.seq (.var 1)) (.some (.cmp .gt (.call 18 (.cons (.var 0) (.cons (.int 3) .nil))) (.int 0))))) c_law_pairs_5)
def b_law_pairs : MB := c_law_pairs_6
def m_law_pairs : MF := ⟨2, 6, b_law_pairs⟩
def c_law_asked_0 : MB := (.cons (.ret (.bl true)) .nil)
def c_law_asked_1 : MB := (.cons (.ret (.call 19 (.cons (.call 29 (.cons (.var 1) (.cons (.var 2) (.cons (.tup (.cons (.tup (.cons (.var 7) (.cons (.var 12) .nil))) .nil)) .nil)))) (.cons (.tup (.cons (.str w_told) (.cons (.call 28 (.cons (.var 1) (.cons (.var 2) (.cons (.dlit (.var 7) (.var 12)) .nil)))) .nil))) .nil)))) .nil)
def c_law_asked_2 : MB := (.cons (.asg (.name 12) (.ix (.ix (.ix (.var 1) (.int 1)) (.call 18 (.cons (.var 0) (.cons (.blt .len (.cons (.ix (.var 1) (.int 1)) .nil)) .nil)))) (.int 0))) c_law_asked_1)
def c_law_asked_3 : MB := (.cons (.ife (.cmp .gt (.blt .len (.cons (.ix (.var 1) (.int 1)) .nil)) (.int 0)) c_law_asked_2 .nil) c_law_asked_0)
def c_law_asked_4 : MB := (.cons (.ret (.bl false)) .nil)
def c_law_asked_5 : MB := (.cons (.ife (.not (.call 19 (.cons (.call 29 (.cons (.var 1) (.cons (.var 2) (.cons (.bin .add (.var 11) (.tup (.cons (.var 6) .nil))) .nil)))) (.cons (.tup (.cons (.str w_refused) (.cons (.str w_name) .nil))) .nil)))) c_law_asked_4 .nil) .nil)
def c_law_asked_6 : MB := (.cons (.ret (.bl false)) .nil)
def c_law_asked_7 : MB := (.cons (.ife (.not (.call 19 (.cons (.call 29 (.cons (.var 1) (.cons (.var 2) (.cons (.var 11) .nil)))) (.cons (.tup (.cons (.str w_refused) (.cons (.str w_taken) .nil))) .nil)))) c_law_asked_6 .nil) c_law_asked_5)
def c_law_asked_8 : MB := (.cons (.forr (.name 11) (.seq (.var 9)) c_law_asked_7) c_law_asked_3)
def c_law_asked_9 : MB := (.cons (.expr (.meth .append (.var 9) (.cons (.tup (.cons (.tup (.cons (.var 7) (.cons (.ix (.ix (.ix (.var 1) (.int 0)) (.call 18 (.cons (.var 0) (.cons (.blt .len (.cons (.ix (.var 1) (.int 0)) .nil)) .nil)))) (.int 0)) .nil))) .nil)) .nil))) .nil)
def c_law_asked_10 : MB := (.cons (.ife (.cmp .gt (.blt .len (.cons (.ix (.var 1) (.int 0)) .nil)) (.int 0)) c_law_asked_9 .nil) c_law_asked_8)
def c_law_asked_11 : MB := (.cons (.expr (.meth .append (.var 9) (.cons (.tup (.cons (.tup (.cons (.var 7) (.cons (.var 5) .nil))) (.cons (.tup (.cons (.var 10) (.cons (.var 5) .nil))) .nil))) .nil))) .nil)
def c_law_asked_12 : MB := (.cons (.expr (.meth .append (.var 9) (.cons (.tup (.cons (.tup (.cons (.var 7) (.cons (.var 10) .nil))) .nil)) .nil))) c_law_asked_11)
def c_law_asked_13 : MB := (.cons (.asg (.name 10) (.ix (.var 3) (.bin .mod (.bin .add (.meth .lindex (.var 3) (.cons (.var 7) .nil)) (.int 1)) (.blt .len (.cons (.var 3) .nil))))) c_law_asked_12)
def c_law_asked_14 : MB := (.cons (.ife (.cmp .gt (.blt .len (.cons (.var 3) .nil)) (.int 1)) c_law_asked_13 .nil) c_law_asked_10)
def c_law_asked_15 : MB := (.cons (.asg (.name 9) (.lst .nil)) c_law_asked_14)
def c_law_asked_16 : MB := (.cons (.ret (.bl false)) .nil)
def c_law_asked_17 : MB := (.cons (.ife (.not (.call 19 (.cons (.call 29 (.cons (.var 1) (.cons (.var 2) (.cons (.tup (.cons (.tup (.cons (.var 7) (.cons (.var 8) .nil))) .nil)) .nil)))) (.cons (.tup (.cons (.str w_refused) (.cons (.str w_name) .nil))) .nil)))) c_law_asked_16 .nil) c_law_asked_15)
def c_law_asked_18 : MB := (.cons (.ret (.bl false)) .nil)
def c_law_asked_19 : MB := (.cons (.ife (.not (.call 19 (.cons (.call 29 (.cons (.var 1) (.cons (.var 2) (.cons (.tup (.cons (.tup (.cons (.var 7) (.cons (.var 5) .nil))) (.cons (.tup (.cons (.var 7) (.cons (.call 20 (.cons (.var 0) .nil)) .nil))) .nil))) .nil)))) (.cons (.tup (.cons (.str w_refused) (.cons (.str w_name) .nil))) .nil)))) c_law_asked_18 .nil) c_law_asked_17)
def c_law_asked_20 : MB := (.cons (.asg (.name 8) (.ix (.tup (.cons (.str w_hold) (.cons (.str w_) (.cons (.str w_9a) (.cons (.str w_toolonger9) (.cons .non (.cons (.int 3) (.cons (.bl true) (.cons (.tup (.cons (.str w_a) .nil)) (.cons (.str w_Up) (.cons (.str w_a_b) (.cons (.str w_a_) .nil)))))))))))) (.call 18 (.cons (.var 0) (.cons (.int 11) .nil))))) c_law_asked_19)
def c_law_asked_21 : MB := (.cons (.asg (.name 7) (.ix (.var 3) (.call 18 (.cons (.var 0) (.cons (.blt .len (.cons (.var 3) .nil)) .nil))))) c_law_asked_20)
def c_law_asked_22 : MB := (.cons (.ret (.bl true)) .nil)
def c_law_asked_23 : MB := (.cons (.ife (.cmp .eq (.blt .len (.cons (.var 3) .nil)) (.int 0)) c_law_asked_22 .nil) c_law_asked_21)
def c_law_asked_24 : MB := (.cons (.ret (.bl false)) .nil)
def c_law_asked_25 : MB := (.cons (.ife (.not (.call 19 (.cons (.call 29 (.cons (.var 1) (.cons (.var 2) (.cons (.bin .add (.var 4) (.tup (.cons (.var 6) .nil))) .nil)))) (.cons (.tup (.cons (.str w_refused) (.cons (.str w_name) .nil))) .nil)))) c_law_asked_24 .nil) c_law_asked_23)
def c_law_asked_26 : MB := (.cons (.asg (.name 6) (.tup (.cons (.call 20 (.cons (.var 0) .nil)) (.cons (.var 5) .nil)))) c_law_asked_25)
def c_law_asked_27 : MB := (.cons (.asg (.name 5) (.call 20 (.cons (.var 0) .nil))) c_law_asked_26)
def c_law_asked_28 : MB := (.cons (.ret (.bl false)) .nil)
def c_law_asked_29 : MB := (.cons (.ife (.not (.call 19 (.cons (.call 29 (.cons (.var 1) (.cons (.var 2) (.cons (.tup .nil) .nil)))) (.cons (.tup (.cons (.str w_told) (.cons (.var 1) .nil))) .nil)))) c_law_asked_28 .nil) c_law_asked_27)
def c_law_asked_30 : MB := (.cons (.ret (.bl false)) .nil)
def c_law_asked_31 : MB := (.cons (.ife (.not (.call 19 (.cons (.call 29 (.cons (.var 1) (.cons (.var 2) (.cons (.var 4) .nil)))) (.cons (.tup (.cons (.str w_told) (.cons (.call 28 (.cons (.var 1) (.cons (.var 2) (.cons (.blt .dict (.cons (.var 4) .nil)) .nil)))) .nil))) .nil)))) c_law_asked_30 .nil) c_law_asked_29)
def c_law_asked_32 : MB := (.cons (.asg (.name 4) (.call 30 (.cons (.var 0) (.cons (.var 3) .nil)))) c_law_asked_31)
def b_law_asked : MB := c_law_asked_32
def m_law_asked : MF := ⟨4, 13, b_law_asked⟩
def c_law_hand_0 : MB := (.cons (.ret (.call 19 (.cons (.ix (.call 16 (.cons (.var 0) (.cons (.str w_main) (.cons (.tup (.cons (.tup (.cons (.str w_a) (.cons (.str w_f) .nil))) .nil)) .nil)))) (.int 3)) (.cons (.tup (.cons (.tup (.cons (.str w_var) (.cons (.str w_f) (.cons (.tup (.cons (.str w_in) .nil)) .nil)))) (.cons (.tup (.cons (.str w_out) (.cons (.tup (.cons (.str w_name) (.cons (.str w_f) .nil))) .nil))) .nil))) .nil)))) .nil)
def c_law_hand_1 : MB := (.cons (.ret (.bl false)) .nil)
def c_law_hand_2 : MB := (.cons (.ife (.or (.not (.call 19 (.cons (.call 29 (.cons (.var 0) (.cons (.str w_fun_f) (.cons (.tup (.cons (.tup (.cons (.str w_t) (.cons (.str w_c) .nil))) .nil)) .nil)))) (.cons (.tup (.cons (.str w_refused) (.cons (.str w_taken) .nil))) .nil)))) (.not (.call 19 (.cons (.call 29 (.cons (.var 0) (.cons (.str w_cell_c) (.cons (.tup .nil) .nil)))) (.cons (.tup (.cons (.str w_refused) (.cons (.str w_part) .nil))) .nil))))) c_law_hand_1 .nil) c_law_hand_0)
def c_law_hand_3 : MB := (.cons (.ret (.bl false)) .nil)
def c_law_hand_4 : MB := (.cons (.ife (.not (.call 19 (.cons (.callk 16 (.cons (.var 0) (.cons (.str w_fun_f) (.cons (.tup (.cons (.tup (.cons (.str w_a) (.cons (.str w_b) .nil))) (.cons (.tup (.cons (.str w_b) (.cons (.str w_a) .nil))) (.cons (.tup (.cons (.str w_t) (.cons (.str w_z9) .nil))) .nil)))) .nil)))) (.cons (.var 1) .nil)))) c_law_hand_3 .nil) c_law_hand_2)
def c_law_hand_5 : MB := (.cons (.asg (.name 1) (.tup (.cons (.tup (.cons (.tup (.cons (.str w_c) (.cons (.int 5) .nil))) .nil)) (.cons (.tup (.cons (.tup (.cons (.str w_f) (.cons (.tup (.cons (.str w_b) (.cons (.str w_a) .nil))) (.cons (.tup (.cons (.tup (.cons (.str w_var) (.cons (.str w_z9) (.cons (.tup (.cons (.str w_add) (.cons (.tup (.cons (.str w_name) (.cons (.str w_b) .nil))) (.cons (.tup (.cons (.str w_name) (.cons (.str w_c) .nil))) .nil)))) .nil)))) (.cons (.tup (.cons (.str w_return) (.cons (.tup (.cons (.str w_name) (.cons (.str w_a) .nil))) .nil))) .nil))) .nil)))) .nil)) (.cons (.tup .nil) (.cons (.ix (.var 0) (.int 3)) .nil)))))) c_law_hand_4)
def c_law_hand_6 : MB := (.cons (.asg (.name 0) (.tup (.cons (.tup (.cons (.tup (.cons (.str w_c) (.cons (.int 5) .nil))) .nil)) (.cons (.tup (.cons (.tup (.cons (.str w_f) (.cons (.tup (.cons (.str w_a) (.cons (.str w_b) .nil))) (.cons (.tup (.cons (.tup (.cons (.str w_var) (.cons (.str w_t) (.cons (.tup (.cons (.str w_add) (.cons (.tup (.cons (.str w_name) (.cons (.str w_a) .nil))) (.cons (.tup (.cons (.str w_name) (.cons (.str w_c) .nil))) .nil)))) .nil)))) (.cons (.tup (.cons (.str w_return) (.cons (.tup (.cons (.str w_name) (.cons (.str w_b) .nil))) .nil))) .nil))) .nil)))) .nil)) (.cons (.tup .nil) (.cons (.tup (.cons (.tup (.cons (.str w_var) (.cons (.str w_a) (.cons (.tup (.cons (.str w_in) .nil)) .nil)))) (.cons (.tup (.cons (.str w_out) (.cons (.tup (.cons (.str w_name) (.cons (.str w_a) .nil))) .nil))) .nil))) .nil)))))) c_law_hand_5)
def b_law_hand : MB := c_law_hand_6
def m_law_hand : MF := ⟨0, 2, b_law_hand⟩
def c_law_0 : MB := (.cons (.ret (.bl true)) .nil)
def c_law_1 : MB := (.cons (.ret (.bl false)) .nil)
def c_law_2 : MB := (.cons (.ife (.not (.call 19 (.cons (.call 29 (.cons (.var 3) (.cons (.var 7) (.cons (.tup (.cons (.tup (.cons (.str w_no) (.cons (.str w_if) .nil))) .nil)) .nil)))) (.cons (.tup (.cons (.str w_refused) (.cons (.str w_part) .nil))) .nil)))) c_law_1 .nil) .nil)
def c_law_3 : MB := (.cons (.asg (.name 7) (.ix (.tup (.cons (.str w_fun_zz9) (.cons (.str w_on_9) (.cons (.str w_mains) (.cons (.str w_cell_cz9) (.cons (.str w_) (.cons .non (.cons (.int 4) (.cons (.tup (.cons (.str w_main) .nil)) (.cons (.str w_fun) (.cons (.str w_on_1_) .nil))))))))))) (.call 18 (.cons (.var 1) (.cons (.int 10) .nil))))) c_law_2)
def c_law_4 : MB := (.cons (.ret (.bl false)) .nil)
def c_law_5 : MB := (.cons (.ife (.or (.not (.call 31 (.cons (.var 1) (.cons (.var 3) (.cons (.var 5) (.cons (.var 6) .nil)))))) (.not (.call 31 (.cons (.var 1) (.cons (.var 3) (.cons (.ix (.ix (.var 4) (.neg (.int 1))) (.int 0)) (.cons (.ix (.ix (.var 4) (.neg (.int 1))) (.int 1)) .nil))))))) c_law_4 .nil) c_law_3)
def c_law_6 : MB := (.cons (.asg (.tup [5, 6]) (.ix (.var 4) (.call 18 (.cons (.var 1) (.cons (.blt .len (.cons (.var 4) .nil)) .nil))))) c_law_5)
def c_law_7 : MB := (.cons (.asg (.name 4) (.call 27 (.cons (.var 3) .nil))) c_law_6)
def c_law_8 : MB := (.cons (.asg (.name 3) (.call 23 (.cons (.var 1) (.cons (.int 3) .nil)))) c_law_7)
def c_law_9 : MB := (.cons (.forr (.name 2) (.rng1 (.int 3)) c_law_8) c_law_0)
def c_law_10 : MB := (.cons (.ret (.bl false)) .nil)
def c_law_11 : MB := (.cons (.ife (.not (.call 32 .nil)) c_law_10 .nil) c_law_9)
def c_law_12 : MB := (.cons (.asg (.name 1) (.call 17 (.cons (.var 0) .nil))) c_law_11)
def b_law : MB := c_law_12
def m_law : MF := ⟨1, 8, b_law⟩
def cns : List (Str × D) := [("PAIRED", (.tup [(.str w_add), (.str w_sub), (.str w_mul), (.str w_less), (.str w_same)])), ("MOST_NAME", (.int 8)), ("FIGURES", (.str w_0123456789)), ("SMALL", (.str w_abcdefghijklmnopqrstuvwxyz)), ("KEPT", (.tup [(.str w_cell), (.str w_fun), (.str w_on), (.str w_main), (.str w_var), (.str w_if), (.str w_else), (.str w_while), (.str w_hold), (.str w_return), (.str w_out), (.str w_in)]))]
def gls : List D := [(.tup [(.str w_add), (.str w_sub), (.str w_mul), (.str w_less), (.str w_same)]), (.int 8), (.str w_0123456789), (.str w_abcdefghijklmnopqrstuvwxyz), (.tup [(.str w_cell), (.str w_fun), (.str w_on), (.str w_main), (.str w_var), (.str w_if), (.str w_else), (.str w_while), (.str w_hold), (.str w_return), (.str w_out), (.str w_in)])]
def tb : List MF := [m_inner_expressions, m_with_inner, m_own_expressions, m_own_blocks, m_with_own, m_all_statements, m_only_signs, m_is_name, m_part_names, m_part_number, m_locals_of, m_turned_expression, m_turned_names, m_parameters_and_block, m_with_part, m_look_at_pairs, m_renamed_locals, m_law_pool, m_law_take, m_law_same, m_law_name, m_law_expression, m_law_block, m_law_tree, m_law_in_expression, m_law_in_block, m_law_vars, m_law_parts, m_law_due, m_law_tried, m_law_pairs, m_law_asked, m_law_hand, m_law]
def iniS (s : Stmt) : Stmt := match s with
  | .ClassDef _ _ _ b _ _ _ _ _ _ _ => (b.find? fun z => match z with | .FunctionDef _ _ _ _ _ _ _ _ _ _ => true | _ => false).getD s
  | _ => s
def xds : List XD := [⟨"BadStep", "BadStep.__init__", iniS (topS 3), ["word"]⟩]
def hns : List (Str × Str × Bool) := [("BadStep", "BadStep", true)]
def pds : List PD := [⟨"inner_expressions", topS 6, ["e"], m_inner_expressions⟩,
  ⟨"with_inner", topS 7, ["e", "parts"], m_with_inner⟩,
  ⟨"own_expressions", topS 8, ["statement", "word"], m_own_expressions⟩,
  ⟨"own_blocks", topS 9, ["statement", "word"], m_own_blocks⟩,
  ⟨"with_own", topS 10, ["statement", "expressions", "blocks", "word"], m_with_own⟩,
  ⟨"all_statements", topS 11, ["block", "found", "statement", "inner"], m_all_statements⟩,
  ⟨"only_signs", topS 15, ["word", "signs", "sign"], m_only_signs⟩,
  ⟨"is_name", topS 19, ["thing"], m_is_name⟩,
  ⟨"part_names", topS 21, ["tree", "cells", "funs", "name", "number", "fun", "level", "block"], m_part_names⟩,
  ⟨"part_number", topS 22, ["tree", "name", "names"], m_part_number⟩,
  ⟨"locals_of", topS 23, ["block", "statement"], m_locals_of⟩,
  ⟨"turned_expression", topS 25, ["e", "names", "funs", "parts", "part"], m_turned_expression⟩,
  ⟨"turned_names", topS 26, ["block", "names", "funs", "found", "statement", "expressions", "blocks", "e", "inner"], m_turned_names⟩,
  ⟨"parameters_and_block", topS 27, ["tree", "number", "cells", "funs", "ons", "main", "at"], m_parameters_and_block⟩,
  ⟨"with_part", topS 28, ["tree", "number", "parameters", "block", "cells", "funs", "ons", "main", "at"], m_with_part⟩,
  ⟨"look_at_pairs", topS 29, ["known", "names", "olds", "old", "fresh"], m_look_at_pairs⟩,
  ⟨"renamed_locals", topS 30, ["tree", "part", "names", "number", "parameters", "block", "known", "table", "turned", "name", "word"], m_renamed_locals⟩,
  ⟨"_law_pool", topS 32, ["script", "cell"], m_law_pool⟩,
  ⟨"_law_take", topS 33, ["pool", "many", "told"], m_law_take⟩,
  ⟨"_law_same", topS 34, ["told", "due", "waiting", "one", "other", "k"], m_law_same⟩,
  ⟨"_law_name", topS 35, ["pool", "letters"], m_law_name⟩,
  ⟨"_law_expression", topS 36, ["pool", "names", "funs", "deep", "way", "name", "many", "word", "lap"], m_law_expression⟩,
  ⟨"_law_block", topS 37, ["pool", "kind", "names", "funs", "deep", "held", "seen", "told", "lap", "way", "e", "fresh", "name", "many", "k"], m_law_block⟩,
  ⟨"_law_tree", topS 38, ["pool", "most", "cells", "names", "funs", "heads", "lap", "own", "name", "levels", "ons", "number", "k", "level"], m_law_tree⟩,
  ⟨"_law_in_expression", topS 39, ["e", "names", "funs", "one"], m_law_in_expression⟩,
  ⟨"_law_in_block", topS 40, ["block", "names", "funs", "told", "one"], m_law_in_block⟩,
  ⟨"_law_vars", topS 41, ["block", "told", "one"], m_law_vars⟩,
  ⟨"_law_parts", topS 42, ["tree", "cells", "funs", "ons", "main", "told", "name", "own", "block", "level"], m_law_parts⟩,
  ⟨"_law_due", topS 43, ["tree", "part", "table", "cells", "funs", "ons", "main", "told", "name", "own", "block", "others", "one", "level"], m_law_due⟩,
  ⟨"_law_tried", topS 44, ["tree", "part", "names", "error"], m_law_tried⟩,
  ⟨"_law_pairs", topS 45, ["pool", "own", "some", "way", "one", "k"], m_law_pairs⟩,
  ⟨"_law_asked", topS 46, ["pool", "tree", "part", "own", "pairs", "fresh", "stranger", "one", "bad", "taken", "other", "names", "name"], m_law_asked⟩,
  ⟨"_law_hand", topS 47, ["tree", "due"], m_law_hand⟩,
  ⟨"law", topS 48, ["script", "pool", "lap", "tree", "parts", "part", "own", "wrong"], m_law⟩]
abbrev i_inner_expressions : Nat := 0
abbrev i_with_inner : Nat := 1
abbrev i_own_expressions : Nat := 2
abbrev i_own_blocks : Nat := 3
abbrev i_with_own : Nat := 4
abbrev i_all_statements : Nat := 5
abbrev i_only_signs : Nat := 6
abbrev i_is_name : Nat := 7
abbrev i_part_names : Nat := 8
abbrev i_part_number : Nat := 9
abbrev i_locals_of : Nat := 10
abbrev i_turned_expression : Nat := 11
abbrev i_turned_names : Nat := 12
abbrev i_parameters_and_block : Nat := 13
abbrev i_with_part : Nat := 14
abbrev i_look_at_pairs : Nat := 15
abbrev i_renamed_locals : Nat := 16
abbrev i_law_pool : Nat := 17
abbrev i_law_take : Nat := 18
abbrev i_law_same : Nat := 19
abbrev i_law_name : Nat := 20
abbrev i_law_expression : Nat := 21
abbrev i_law_block : Nat := 22
abbrev i_law_tree : Nat := 23
abbrev i_law_in_expression : Nat := 24
abbrev i_law_in_block : Nat := 25
abbrev i_law_vars : Nat := 26
abbrev i_law_parts : Nat := 27
abbrev i_law_due : Nat := 28
abbrev i_law_tried : Nat := 29
abbrev i_law_pairs : Nat := 30
abbrev i_law_asked : Nat := 31
abbrev i_law_hand : Nat := 32
abbrev i_law : Nat := 33
/-- the run of this program's defs -/
abbrev rn (n : Nat) : Cl := run gls tb n
abbrev R0 (Q : Kd) : Es := { nx := fun _ h' => Q .non h', rt := Q, bk := fun _ _ => False, ct := fun _ _ => False }
theorem u_inner_expressions {n : Nat} {d0 : D} {h : Hh} {Q : Kd} {X : Ex} (w : wB gls (rn n) X b_inner_expressions (R0 Q) [some d0] h) : rn (n + 1) i_inner_expressions [d0] h Q X := run_of (m := m_inner_expressions) rfl rfl rfl w
theorem u_with_inner {n : Nat} {d0 d1 : D} {h : Hh} {Q : Kd} {X : Ex} (w : wB gls (rn n) X b_with_inner (R0 Q) [some d0, some d1] h) : rn (n + 1) i_with_inner [d0, d1] h Q X := run_of (m := m_with_inner) rfl rfl rfl w
theorem u_own_expressions {n : Nat} {d0 : D} {h : Hh} {Q : Kd} {X : Ex} (w : wB gls (rn n) X b_own_expressions (R0 Q) [some d0, none] h) : rn (n + 1) i_own_expressions [d0] h Q X := run_of (m := m_own_expressions) rfl rfl rfl w
theorem u_own_blocks {n : Nat} {d0 : D} {h : Hh} {Q : Kd} {X : Ex} (w : wB gls (rn n) X b_own_blocks (R0 Q) [some d0, none] h) : rn (n + 1) i_own_blocks [d0] h Q X := run_of (m := m_own_blocks) rfl rfl rfl w
theorem u_with_own {n : Nat} {d0 d1 d2 : D} {h : Hh} {Q : Kd} {X : Ex} (w : wB gls (rn n) X b_with_own (R0 Q) [some d0, some d1, some d2, none] h) : rn (n + 1) i_with_own [d0, d1, d2] h Q X := run_of (m := m_with_own) rfl rfl rfl w
theorem u_all_statements {n : Nat} {d0 : D} {h : Hh} {Q : Kd} {X : Ex} (w : wB gls (rn n) X b_all_statements (R0 Q) [some d0, none, none, none] h) : rn (n + 1) i_all_statements [d0] h Q X := run_of (m := m_all_statements) rfl rfl rfl w
theorem u_only_signs {n : Nat} {d0 d1 : D} {h : Hh} {Q : Kd} {X : Ex} (w : wB gls (rn n) X b_only_signs (R0 Q) [some d0, some d1, none] h) : rn (n + 1) i_only_signs [d0, d1] h Q X := run_of (m := m_only_signs) rfl rfl rfl w
theorem u_is_name {n : Nat} {d0 : D} {h : Hh} {Q : Kd} {X : Ex} (w : wB gls (rn n) X b_is_name (R0 Q) [some d0] h) : rn (n + 1) i_is_name [d0] h Q X := run_of (m := m_is_name) rfl rfl rfl w
theorem u_part_names {n : Nat} {d0 : D} {h : Hh} {Q : Kd} {X : Ex} (w : wB gls (rn n) X b_part_names (R0 Q) [some d0, none, none, none, none, none, none, none] h) : rn (n + 1) i_part_names [d0] h Q X := run_of (m := m_part_names) rfl rfl rfl w
theorem u_part_number {n : Nat} {d0 d1 : D} {h : Hh} {Q : Kd} {X : Ex} (w : wB gls (rn n) X b_part_number (R0 Q) [some d0, some d1, none] h) : rn (n + 1) i_part_number [d0, d1] h Q X := run_of (m := m_part_number) rfl rfl rfl w
theorem u_locals_of {n : Nat} {d0 : D} {h : Hh} {Q : Kd} {X : Ex} (w : wB gls (rn n) X b_locals_of (R0 Q) [some d0, none] h) : rn (n + 1) i_locals_of [d0] h Q X := run_of (m := m_locals_of) rfl rfl rfl w
theorem u_turned_expression {n : Nat} {d0 d1 d2 : D} {h : Hh} {Q : Kd} {X : Ex} (w : wB gls (rn n) X b_turned_expression (R0 Q) [some d0, some d1, some d2, none, none] h) : rn (n + 1) i_turned_expression [d0, d1, d2] h Q X := run_of (m := m_turned_expression) rfl rfl rfl w
theorem u_turned_names {n : Nat} {d0 d1 d2 : D} {h : Hh} {Q : Kd} {X : Ex} (w : wB gls (rn n) X b_turned_names (R0 Q) [some d0, some d1, some d2, none, none, none, none, none, none] h) : rn (n + 1) i_turned_names [d0, d1, d2] h Q X := run_of (m := m_turned_names) rfl rfl rfl w
theorem u_parameters_and_block {n : Nat} {d0 d1 : D} {h : Hh} {Q : Kd} {X : Ex} (w : wB gls (rn n) X b_parameters_and_block (R0 Q) [some d0, some d1, none, none, none, none, none] h) : rn (n + 1) i_parameters_and_block [d0, d1] h Q X := run_of (m := m_parameters_and_block) rfl rfl rfl w
theorem u_with_part {n : Nat} {d0 d1 d2 d3 : D} {h : Hh} {Q : Kd} {X : Ex} (w : wB gls (rn n) X b_with_part (R0 Q) [some d0, some d1, some d2, some d3, none, none, none, none, none] h) : rn (n + 1) i_with_part [d0, d1, d2, d3] h Q X := run_of (m := m_with_part) rfl rfl rfl w
theorem u_look_at_pairs {n : Nat} {d0 d1 : D} {h : Hh} {Q : Kd} {X : Ex} (w : wB gls (rn n) X b_look_at_pairs (R0 Q) [some d0, some d1, none, none, none] h) : rn (n + 1) i_look_at_pairs [d0, d1] h Q X := run_of (m := m_look_at_pairs) rfl rfl rfl w
theorem u_renamed_locals {n : Nat} {d0 d1 d2 : D} {h : Hh} {Q : Kd} {X : Ex} (w : wB gls (rn n) X b_renamed_locals (R0 Q) [some d0, some d1, some d2, none, none, none, none, none, none, none, none] h) : rn (n + 1) i_renamed_locals [d0, d1, d2] h Q X := run_of (m := m_renamed_locals) rfl rfl rfl w
theorem u_law_pool {n : Nat} {d0 : D} {h : Hh} {Q : Kd} {X : Ex} (w : wB gls (rn n) X b_law_pool (R0 Q) [some d0, none] h) : rn (n + 1) i_law_pool [d0] h Q X := run_of (m := m_law_pool) rfl rfl rfl w
theorem u_law_take {n : Nat} {d0 d1 : D} {h : Hh} {Q : Kd} {X : Ex} (w : wB gls (rn n) X b_law_take (R0 Q) [some d0, some d1, none] h) : rn (n + 1) i_law_take [d0, d1] h Q X := run_of (m := m_law_take) rfl rfl rfl w
theorem u_law_same {n : Nat} {d0 d1 : D} {h : Hh} {Q : Kd} {X : Ex} (w : wB gls (rn n) X b_law_same (R0 Q) [some d0, some d1, none, none, none, none] h) : rn (n + 1) i_law_same [d0, d1] h Q X := run_of (m := m_law_same) rfl rfl rfl w
theorem u_law_name {n : Nat} {d0 : D} {h : Hh} {Q : Kd} {X : Ex} (w : wB gls (rn n) X b_law_name (R0 Q) [some d0, none] h) : rn (n + 1) i_law_name [d0] h Q X := run_of (m := m_law_name) rfl rfl rfl w
theorem u_law_expression {n : Nat} {d0 d1 d2 d3 : D} {h : Hh} {Q : Kd} {X : Ex} (w : wB gls (rn n) X b_law_expression (R0 Q) [some d0, some d1, some d2, some d3, none, none, none, none, none] h) : rn (n + 1) i_law_expression [d0, d1, d2, d3] h Q X := run_of (m := m_law_expression) rfl rfl rfl w
theorem u_law_block {n : Nat} {d0 d1 d2 d3 d4 d5 : D} {h : Hh} {Q : Kd} {X : Ex} (w : wB gls (rn n) X b_law_block (R0 Q) [some d0, some d1, some d2, some d3, some d4, some d5, none, none, none, none, none, none, none, none, none] h) : rn (n + 1) i_law_block [d0, d1, d2, d3, d4, d5] h Q X := run_of (m := m_law_block) rfl rfl rfl w
theorem u_law_tree {n : Nat} {d0 d1 : D} {h : Hh} {Q : Kd} {X : Ex} (w : wB gls (rn n) X b_law_tree (R0 Q) [some d0, some d1, none, none, none, none, none, none, none, none, none, none, none, none] h) : rn (n + 1) i_law_tree [d0, d1] h Q X := run_of (m := m_law_tree) rfl rfl rfl w
theorem u_law_in_expression {n : Nat} {d0 d1 d2 : D} {h : Hh} {Q : Kd} {X : Ex} (w : wB gls (rn n) X b_law_in_expression (R0 Q) [some d0, some d1, some d2, none] h) : rn (n + 1) i_law_in_expression [d0, d1, d2] h Q X := run_of (m := m_law_in_expression) rfl rfl rfl w
theorem u_law_in_block {n : Nat} {d0 d1 d2 : D} {h : Hh} {Q : Kd} {X : Ex} (w : wB gls (rn n) X b_law_in_block (R0 Q) [some d0, some d1, some d2, none, none] h) : rn (n + 1) i_law_in_block [d0, d1, d2] h Q X := run_of (m := m_law_in_block) rfl rfl rfl w
theorem u_law_vars {n : Nat} {d0 : D} {h : Hh} {Q : Kd} {X : Ex} (w : wB gls (rn n) X b_law_vars (R0 Q) [some d0, none, none] h) : rn (n + 1) i_law_vars [d0] h Q X := run_of (m := m_law_vars) rfl rfl rfl w
theorem u_law_parts {n : Nat} {d0 : D} {h : Hh} {Q : Kd} {X : Ex} (w : wB gls (rn n) X b_law_parts (R0 Q) [some d0, none, none, none, none, none, none, none, none, none] h) : rn (n + 1) i_law_parts [d0] h Q X := run_of (m := m_law_parts) rfl rfl rfl w
theorem u_law_due {n : Nat} {d0 d1 d2 : D} {h : Hh} {Q : Kd} {X : Ex} (w : wB gls (rn n) X b_law_due (R0 Q) [some d0, some d1, some d2, none, none, none, none, none, none, none, none, none, none, none] h) : rn (n + 1) i_law_due [d0, d1, d2] h Q X := run_of (m := m_law_due) rfl rfl rfl w
theorem u_law_tried {n : Nat} {d0 d1 d2 : D} {h : Hh} {Q : Kd} {X : Ex} (w : wB gls (rn n) X b_law_tried (R0 Q) [some d0, some d1, some d2, none] h) : rn (n + 1) i_law_tried [d0, d1, d2] h Q X := run_of (m := m_law_tried) rfl rfl rfl w
theorem u_law_pairs {n : Nat} {d0 d1 : D} {h : Hh} {Q : Kd} {X : Ex} (w : wB gls (rn n) X b_law_pairs (R0 Q) [some d0, some d1, none, none, none, none] h) : rn (n + 1) i_law_pairs [d0, d1] h Q X := run_of (m := m_law_pairs) rfl rfl rfl w
theorem u_law_asked {n : Nat} {d0 d1 d2 d3 : D} {h : Hh} {Q : Kd} {X : Ex} (w : wB gls (rn n) X b_law_asked (R0 Q) [some d0, some d1, some d2, some d3, none, none, none, none, none, none, none, none, none] h) : rn (n + 1) i_law_asked [d0, d1, d2, d3] h Q X := run_of (m := m_law_asked) rfl rfl rfl w
theorem u_law_hand {n : Nat} {h : Hh} {Q : Kd} {X : Ex} (w : wB gls (rn n) X b_law_hand (R0 Q) [none, none] h) : rn (n + 1) i_law_hand [] h Q X := run_of (m := m_law_hand) rfl rfl rfl w
theorem u_law {n : Nat} {d0 : D} {h : Hh} {Q : Kd} {X : Ex} (w : wB gls (rn n) X b_law (R0 Q) [some d0, none, none, none, none, none, none, none] h) : rn (n + 1) i_law [d0] h Q X := run_of (m := m_law) rfl rfl rfl w
theorem all_chk : (pds.all fun p => p.ok (fnsOf pds xds hns) (cns.map (·.1))) = true := by decide +kernel
theorem all_xs : (xds.all fun d => d.ok) = true := by decide +kernel
end Lw

set_option Elab.async false
set_option linter.all false
set_option maxRecDepth 100000
set_option maxHeartbeats 1000000
namespace Lw
open PySem PySem.Spec PyProof.Rows L2 Mi
local macro_rules | `(tactic| walk_at "mem") => `(tactic| first | exact fun _ z => absurd z List.not_mem_nil | exact List.not_mem_nil | (intro i hi; simp only [List.mem_cons, List.not_mem_nil, or_false, false_or] at hi ⊢; omega) | (simp only [List.mem_cons, List.not_mem_nil, or_false, false_or, not_or]; omega))
local macro_rules | `(tactic| walk_at "get") => `(tactic| first | assumption | (apply Keep.get; assumption; walk_at "get"; walk_at "mem"))
local macro_rules | `(tactic| walk_at "keep") => `(tactic| first | assumption | exact Keep.refl | (apply Keep.step; assumption; walk_at "keep"; walk_at "mem"))
local macro_rules | `(tactic| walk_at "one") => `(tactic| (conv => whnf) <;> first
  | (apply br_t; rfl)
  | (apply br_f; rfl)
  | (apply rdO_i; walk_at "get")
  | (apply itm_i; first | rfl | assumption | exact getAt_end _ _)
  | (apply new_i; intro p h' e1 l1 l2 l3 k)
  | (apply put_i; walk_at "get"; intro h' e1 l1 k)
  | (apply iLst_i; first | rfl | exact intsOf_map _)
  | (apply chk_i; first | rfl | exact lenOk_le (by simp only [List.length_map, List.length_cons, List.length_append, List.length_take, List.length_nil, List.length_replicate, List.length_dropLast]; omega) | exact small_lt (by simp only [List.length_map, List.length_cons, List.length_append, List.length_take, List.length_nil, List.length_replicate, List.length_dropLast]; omega) | assumption | exact mulOk_r (by decide) | exact mulOk_l (by decide) | exact lenOk_le (by omega) | exact small_lt (by omega) | (simp; omega)))
local macro_rules | `(tactic| walk_at "go") => `(tactic| (repeat walk_at "one"); try (conv => whnf))
local macro_rules | `(tactic| walk_at "br") => `(tactic| (refine br_i (fun hc => ?_) (fun hc => ?_) <;> simp only [Bool.not_eq_true', Bool.not_eq_false', beq_iff_eq, beq_eq_false_iff_ne, ne_eq, decide_eq_true_eq, decide_eq_false_iff_not, bne_iff_ne, bne_eq_false_iff_eq] at hc) <;> first | (exfalso; omega) | walk_at "go")

/-- the pool at p, its cells at c; nr: how many names were made -/
structure Pl (h : Hh) (p c : Nat) (nr : Int) : Prop where
  ne : p ≠ c
  ex : ∃ (i cur seed : Int) (xs : List Int), 0 ≤ i ∧ xs.length < 1000 ∧ h[p]? = some (.lst [.ref c, .int i, .int cur, .int seed, .int nr]) ∧ h[c]? = some (.lst (xs.map .int))
theorem fd_ok {m : Int} (h : 0 < m) (h2 : m ≤ 70000) : (decide (0 < m) && decide (m.natAbs < 2 ^ 9000)) = true := by
  have : m.natAbs < 2 ^ 9000 := Nat.lt_of_lt_of_le (show m.natAbs < 2 ^ 20 by omega) (Nat.pow_le_pow_right (by omega) (by omega))
  rw [decide_eq_true h, decide_eq_true this]
  rfl
theorem getAt_ok {α : Type} {f : α → D} {xs : List α} {v : Int} (h0 : 0 ≤ v) (h1 : v < xs.length) : ∃ x, x ∈ xs ∧ getAt (xs.map f) v = some (f x) := by
  have h2 : v.toNat < xs.length := by omega
  refine ⟨xs[v.toNat], List.getElem_mem h2, getAt_map (i := v.toNat) (by simp [h2]) (by omega)⟩
theorem Pl.mono {h h' : Hh} {p c : Nat} {nr : Int} {S : List Nat} (q : Pl h p c nr) (k : Keep S h h') (n1 : p ∉ S) (n2 : c ∉ S) : Pl h' p c nr := by
  obtain ⟨ne, i, cur, seed, xs, h0, hl, e1, e2⟩ := q
  exact ⟨ne, i, cur, seed, xs, h0, hl, k.get e1 n1, k.get e2 n2⟩
theorem Pl.lt {h : Hh} {p c : Nat} {nr : Int} (q : Pl h p c nr) : p < h.length ∧ c < h.length := by
  obtain ⟨ne, i, cur, seed, xs, h0, hl, e1, e2⟩ := q
  exact ⟨lt_of e1, lt_of e2⟩
theorem take_ok {n : Nat} {p c : Nat} {nr m : Int} {h : Hh} {Q : Kd} {X : Ex} (q : Pl h p c nr) (hm : 0 < m) (hm2 : m ≤ 70000) (hn : 1 ≤ n)
    (w : ∀ (v : Int) (h' : Hh), 0 ≤ v → v < m → Pl h' p c nr → h.length ≤ h'.length → Keep [p] h h' → Q (.int v) h') :
    rn n i_law_take [.ref p, .int m] h Q X := by
  cases n with
  | zero => omega
  | succ n =>
    refine u_law_take ?_
    have q1 := q.lt
    have hpc := q.ne
    obtain ⟨ne, i, cur, seed, xs, h0, hl, e1, e2⟩ := q
    have fm : (decide (0 < m) && decide (m.natAbs < 2 ^ 9000)) = true := fd_ok hm hm2
    walk_at "go"
    refine while_i (fun k σ h' => ∃ (i cur seed : Int), k = (xs.length - i).toNat ∧ 0 ≤ i ∧ σ = [some (.ref p), some (.int m), none] ∧ h'[p]? = some (.lst [.ref c, .int i, .int cur, .int seed, .int nr]) ∧ h'[c]? = some (.lst (xs.map .int)) ∧ h.length ≤ h'.length ∧ Keep [p] h h') ?_ _ (xs.length - i).toNat _ _ (fuel_lt (by omega)) ⟨i, cur, seed, rfl, h0, rfl, e1, e2, Nat.le_refl _, Keep.refl⟩
    clear h0 e1 e2 i cur seed
    rintro k σ h2 K ⟨i, cur, seed, rfl, h0, rfl, e1, e2, l2, k2⟩ hK
    have hx : (xs.map D.int).length = xs.length := List.length_map ..
    walk_at "go"
    walk_at "br"
    · walk_at "br"
      · rename_i hc
        obtain ⟨z, mz, ez⟩ := getAt_ok (f := D.int) (xs := xs) h0 (hx ▸ hc)
        walk_at "go"
        rename_i h3 e3 l3 k3 h4 e4 l4 k4
        exact hK _ _ _ (by omega) ⟨i + 1, z, seed, rfl, by omega, rfl, e4, by walk_at "get", by omega, by walk_at "keep"⟩
      · walk_at "br"
        · exact w _ _ (Int.emod_nonneg _ (by omega)) (Int.emod_lt_of_pos _ hm) ⟨ne, i, _, _, xs, h0, hl, by assumption, by walk_at "get"⟩ (by omega) (by walk_at "keep")
    · walk_at "br"
      · exact w _ _ (Int.emod_nonneg _ (by omega)) (Int.emod_lt_of_pos _ hm) ⟨ne, i, _, _, xs, h0, hl, by assumption, by walk_at "get"⟩ (by omega) (by walk_at "keep")
      · exact w _ _ (Int.emod_nonneg _ (by omega)) (Int.emod_lt_of_pos _ hm) ⟨ne, i, _, _, xs, h0, hl, by assumption, by walk_at "get"⟩ (by omega) (by walk_at "keep")

end Lw

set_option Elab.async false
set_option linter.all false
set_option maxRecDepth 100000
set_option maxHeartbeats 1000000
namespace Lw
open PySem PySem.Spec PyProof.Rows L2 Mi
local macro_rules | `(tactic| walk_at "mem") => `(tactic| first | exact fun _ z => absurd z List.not_mem_nil | exact List.not_mem_nil | (intro i hi; simp only [List.mem_cons, List.not_mem_nil, or_false, false_or] at hi ⊢; omega) | (simp only [List.mem_cons, List.not_mem_nil, or_false, false_or, not_or]; omega))
local macro_rules | `(tactic| walk_at "get") => `(tactic| first | assumption | (apply Keep.get; assumption; walk_at "get"; walk_at "mem"))
local macro_rules | `(tactic| walk_at "keep") => `(tactic| first | assumption | exact Keep.refl | (apply Keep.step; assumption; walk_at "keep"; walk_at "mem"))
local macro_rules | `(tactic| walk_at "one") => `(tactic| (conv => whnf) <;> first
  | (apply br_t; rfl)
  | (apply br_f; rfl)
  | (apply rdO_i; walk_at "get")
  | (apply itm_i; first | rfl | assumption | exact getAt_end _ _)
  | (apply new_i; intro p h' e1 l1 l2 l3 k)
  | (apply put_i; walk_at "get"; intro h' e1 l1 k)
  | (apply iLst_i; first | rfl | exact intsOf_map _)
  | (apply chk_i; first | rfl | exact lenOk_le (by simp only [List.length_map, List.length_cons, List.length_append, List.length_take, List.length_nil, List.length_replicate, List.length_dropLast]; omega) | exact small_lt (by simp only [List.length_map, List.length_cons, List.length_append, List.length_take, List.length_nil, List.length_replicate, List.length_dropLast]; omega) | assumption | exact mulOk_r (by decide) | exact mulOk_l (by decide) | exact lenOk_le (by omega) | exact small_lt (by omega) | (simp; omega)))
local macro_rules | `(tactic| walk_at "go") => `(tactic| (repeat walk_at "one"); try (conv => whnf))
local macro_rules | `(tactic| walk_at "br") => `(tactic| (refine br_i (fun hc => ?_) (fun hc => ?_) <;> simp only [Bool.not_eq_true', Bool.not_eq_false', beq_iff_eq, beq_eq_false_iff_ne, ne_eq, decide_eq_true_eq, decide_eq_false_iff_not, bne_iff_ne, bne_eq_false_iff_eq] at hc) <;> first | (exfalso; omega) | walk_at "go")

mutual
/-- values without objects, and how great they are -/
def pln : D → Bool
  | .tup xs => plns xs
  | .ref _ => false
  | .fn _ => false
  | _ => true
def plns : List D → Bool
  | [] => true
  | d :: ds => pln d && plns ds
end
mutual
def gr : D → Nat
  | .tup xs => grs xs + 1
  | _ => 1
def grs : List D → Nat
  | [] => 0
  | d :: ds => gr d + grs ds
end
theorem plns_app : ∀ {a b : List D}, plns (a ++ b) = (plns a && plns b)
  | [], b => by simp [plns]
  | x :: a, b => by simp [plns, plns_app (a := a) (b := b), Bool.and_assoc]
theorem grs_app : ∀ {a b : List D}, grs (a ++ b) = grs a + grs b
  | [], b => by simp [grs]
  | x :: a, b => by simp [grs, grs_app (a := a) (b := b), Nat.add_assoc]
theorem len_grs : ∀ a : List D, a.length ≤ grs a
  | [] => Nat.le_refl _
  | x :: a => by
    have := len_grs a
    have : 1 ≤ gr x := by cases x <;> simp [gr]
    simp only [grs, List.length_cons]
    omega
theorem same_ok {n : Nat} {t : D} {h : Hh} {Q : Kd} {X : Ex} (hn : 1 ≤ n) (hp : pln t = true) (hg : gr t < 10000000) (w : ∀ h', h.length ≤ h'.length → Keep [] h h' → Q (.bl true) h') : rn n i_law_same [t, t] h Q X := by
  cases n with
  | zero => omega
  | succ n =>
    refine u_law_same ?_
    walk_at "go"
    rename_i p h1 e1 g1 g2 g3 k1
    refine while_i (fun m σ h' => ∃ (zs : List D) (x3 x4 x5 : Option D), m = grs zs ∧ grs zs ≤ gr t ∧ plns zs = true ∧ σ = [some t, some t, some (.ref p), x3, x4, x5] ∧ h'[p]? = some (.lst (zs.map fun z => .tup [z, z])) ∧ h1.length ≤ h'.length ∧ Keep [p] h1 h') ?_ _ (gr t) _ _ (fuel_lt (by omega)) ?_
    · rintro m σ h2 K ⟨zs, x3, x4, x5, rfl, hz, hpl, rfl, e2, l2, k2⟩ hK
      walk_at "go"
      rcases List.eq_nil_or_concat zs with rfl | ⟨zs, y, rfl⟩
      · walk_at "go"
        exact w _ (by omega) (by walk_at "keep")
      · rw [List.concat_eq_append] at *
        simp only [List.map_append, List.map_cons, List.map_nil, List.length_append, List.length_singleton, grs_app, plns_app, grs, plns, Bool.and_true, Bool.and_eq_true, Nat.add_zero] at e2 hK hz hpl
        have hlz := len_grs zs
        refine br_t (by rw [decide_eq_true_eq]; simp only [List.map_append, List.map_cons, List.map_nil, List.length_append, List.length_singleton]; omega) ?_
        have gy : 1 ≤ gr y := by cases y <;> simp [gr]
        cases y with
        | ref _ => cases hpl.2
        | fn _ => cases hpl.2
        | tup xs =>
          have hxl : (xs.length : Int) = xs.length := rfl
          have hx2 := len_grs xs
          simp only [gr] at hz hK
          walk_at "go"
          rename_i h3 e3 l3 k3
          rw [List.dropLast_concat] at e3
          refine br_f (by simp) ?_
          walk_at "go"
          rename_i q h4 e4 g4 g5 g6 k4
          refine comp_i (I := fun r acc h' => ∃ z1 z2, xs = z1 ++ z2 ∧ r = range z2.length 0 z1.length ∧ acc = z1.map (fun z => .tup [z, z]) ∧ h4.length ≤ h'.length ∧ Keep [q] h4 h') ?_ ?_ _ _ _ e4 ?_
          · rintro x r acc h5 K2 e5 ⟨z1, z2, ez, er, rfl, l5, k5⟩ hK2
            obtain ⟨m', em, rfl, rfl⟩ := range_cons er
            cases z2 with
            | nil => cases em
            | cons z z2 =>
              have em2 : z2.length = m' := by simpa using em
              have gd : getAt xs (0 + (z1.length : Int)) = some z := getAt_map (i := z1.length) (by rw [ez]; simp) (by omega)
              have hzl := congrArg List.length ez
              simp only [List.length_append, List.length_cons] at hzl
              walk_at "go"
              rename_i h6 e6 l6 k6
              exact hK2 _ _ e6 ⟨z1 ++ [z], z2, by rw [ez]; simp, by rw [em2, List.length_append]; rfl, by simp, by omega, by walk_at "keep"⟩
          · rintro acc h5 e5 ⟨z1, z2, ez, er, rfl, l5, k5⟩
            have := List.eq_nil_of_length_eq_zero (range_nil er)
            subst this
            rw [List.append_nil] at ez
            subst ez
            walk_at "go"
            rename_i h6 e6 l6 k6
            refine hK _ _ _ ?_ ⟨zs ++ xs, _, _, _, rfl, ?_, ?_, rfl, ?_, by omega, by walk_at "keep"⟩
            · rw [grs_app]; omega
            · rw [grs_app]; omega
            · rw [plns_app, hpl.1]; exact hpl.2
            · rw [e6, List.map_append]
          · exact ⟨[], xs, rfl, by simp, rfl, Nat.le_refl _, Keep.refl⟩
        | non =>
          walk_at "go"
          rename_i h3 e3 l3 k3
          rw [List.dropLast_concat] at e3
          exact hK _ _ _ (by omega) ⟨zs, _, _, _, rfl, by omega, hpl.1, rfl, e3, by omega, by walk_at "keep"⟩
        | _ =>
          walk_at "go"
          rename_i h3 e3 l3 k3
          rw [List.dropLast_concat] at e3
          refine br_f (by simp [strEq_self]) ?_
          walk_at "go"
          exact hK _ _ _ (by omega) ⟨zs, _, _, _, rfl, by omega, hpl.1, rfl, e3, by omega, by walk_at "keep"⟩
    · exact ⟨[t], _, _, _, by simp [grs], by simp [grs], by simp [plns, hp], rfl, e1, Nat.le_refl _, Keep.refl⟩

end Lw

set_option Elab.async false
set_option linter.all false
set_option maxRecDepth 100000
set_option maxHeartbeats 1000000
namespace Lw
open PySem PySem.Spec PyProof.Rows L2 Mi
local macro_rules | `(tactic| walk_at "mem") => `(tactic| first | exact fun _ z => absurd z List.not_mem_nil | exact List.not_mem_nil | (intro i hi; simp only [List.mem_cons, List.not_mem_nil, or_false, false_or] at hi ⊢; omega) | (simp only [List.mem_cons, List.not_mem_nil, or_false, false_or, not_or]; omega))
local macro_rules | `(tactic| walk_at "get") => `(tactic| first | assumption | (apply Keep.get; assumption; walk_at "get"; walk_at "mem"))
local macro_rules | `(tactic| walk_at "keep") => `(tactic| first | assumption | exact Keep.refl | (apply Keep.step; assumption; walk_at "keep"; walk_at "mem"))
local macro_rules | `(tactic| walk_at "one") => `(tactic| (conv => whnf) <;> first
  | (apply br_t; rfl)
  | (apply br_f; rfl)
  | (apply rdO_i; walk_at "get")
  | (apply itm_i; first | rfl | assumption | exact getAt_end _ _)
  | (apply new_i; intro p h' e1 l1 l2 l3 k)
  | (apply put_i; walk_at "get"; intro h' e1 l1 k)
  | (apply iLst_i; first | rfl | exact intsOf_map _)
  | (apply chk_i; first | rfl | exact lenOk_le (by simp only [List.length_map, List.length_cons, List.length_append, List.length_take, List.length_nil, List.length_replicate, List.length_dropLast]; omega) | exact small_lt (by simp only [List.length_map, List.length_cons, List.length_append, List.length_take, List.length_nil, List.length_replicate, List.length_dropLast]; omega) | assumption | exact mulOk_r (by decide) | exact mulOk_l (by decide) | exact lenOk_le (by omega) | exact small_lt (by omega) | (simp; omega)))
local macro_rules | `(tactic| walk_at "go") => `(tactic| (repeat walk_at "one"); try (conv => whnf))

/-- the digits of a number -/
def st (n : Int) : Str := PySem.Str.ofString (toString n)
theorem st_codes (m : Nat) : (st m).cps.toList = (Nat.toDigits 10 m).map Char.toNat := by
  unfold st
  rw [PySem.Str.ofString_eq_toList]
  show ((toString ((m : Nat) : Int)).toList.map Char.toNat) = _
  rw [show toString ((m : Nat) : Int) = Nat.repr m from rfl, Nat.toList_repr]
theorem st_digit {m c : Nat} (h : c ∈ (st m).cps.toList) : 48 ≤ c ∧ c ≤ 57 := by
  rw [st_codes] at h
  obtain ⟨d, hd, rfl⟩ := List.mem_map.mp h
  have := Nat.isDigit_of_mem_toDigits (by decide) (by decide) hd
  simp only [Char.isDigit, Bool.and_eq_true, decide_eq_true_eq] at this
  obtain ⟨h1, h2⟩ := this
  exact ⟨h1, h2⟩
theorem toNat_inj {a b : Char} (h : a.toNat = b.toNat) : a = b := by
  have : a.val = b.val := by
    apply UInt32.toNat_inj.mp
    exact h
  exact Char.ext this
theorem map_inj {α β : Type} {f : α → β} (hf : ∀ a b, f a = f b → a = b) : ∀ {xs ys : List α}, xs.map f = ys.map f → xs = ys
  | [], [], _ => rfl
  | [], _ :: _, h => by cases h
  | _ :: _, [], h => by cases h
  | x :: xs, y :: ys, h => by
    simp only [List.map_cons, List.cons.injEq] at h
    rw [hf _ _ h.1, map_inj hf h.2]
theorem codes_inj {x y : Str} (h : x.cps.toList = y.cps.toList) : x = y := by
  cases x
  cases y
  congr 1
  exact Array.toList_inj.mp h
theorem codes_app (x y : Str) : (x ++ y).cps.toList = x.cps.toList ++ y.cps.toList := by
  show (x.cps ++ y.cps).toList = _
  simp
theorem st_inj {m k : Nat} (h : st m = st k) : m = k := by
  have h1 : (Nat.toDigits 10 m).map Char.toNat = (Nat.toDigits 10 k).map Char.toNat := by rw [← st_codes, ← st_codes, h]
  have h2 := map_inj (fun a b => toNat_inj) h1
  rw [← Nat.ofDigitChars_ten_toDigits (n := m), h2, Nat.ofDigitChars_ten_toDigits]
theorem str_app_inj {a b c : Str} (h : a ++ b = a ++ c) : b = c := by
  have := congrArg (fun z : Str => z.cps.toList) h
  simp only [codes_app] at this
  exact codes_inj (List.append_cancel_left this)
/-- x is the name that was made as the k-th -/
def Nm (x : Str) (k : Nat) : Prop := ∃ (ch : Nat) (t : Str), 97 ≤ ch ∧ ch ≤ 122 ∧ (t = w_ ∨ t = w_q ∨ t = w_a0) ∧ x = (⟨#[ch]⟩ : Str) ++ st k ++ t
def dgs (x : Str) : List Nat := (x.cps.toList.drop 1).takeWhile fun c => decide (48 ≤ c ∧ c ≤ 57)
theorem Nm.dgs {x : Str} {k : Nat} (h : Nm x k) : dgs x = (st k).cps.toList := by
  obtain ⟨ch, t, h1, h2, ht, rfl⟩ := h
  unfold Lw.dgs
  rw [codes_app, codes_app]
  show ((ch :: (st k).cps.toList) ++ t.cps.toList |>.drop 1).takeWhile _ = _
  rw [List.cons_append, List.drop_succ_cons, List.drop_zero, List.takeWhile_append_of_pos fun c hc => decide_eq_true (st_digit hc)]
  rcases ht with rfl | rfl | rfl
  · show _ ++ List.takeWhile _ [] = _
    simp
  · show _ ++ List.takeWhile _ [113] = _
    simp
  · show _ ++ List.takeWhile _ [97, 48] = _
    simp
theorem Nm.inj {x : Str} {i j : Nat} (h : Nm x i) (g : Nm x j) : i = j := st_inj (codes_inj (h.dgs.symm.trans g.dgs))
/-- its second sign is a digit -/
theorem Nm.second {x : Str} {k : Nat} (h : Nm x k) : ∃ a c r, x.cps.toList = a :: c :: r ∧ 48 ≤ c ∧ c ≤ 57 := by
  obtain ⟨ch, t, h1, h2, ht, rfl⟩ := h
  rw [codes_app, codes_app]
  cases e : (st k).cps.toList with
  | nil =>
    rw [st_codes] at e
    exact absurd (List.map_eq_nil_iff.mp e) Nat.toDigits_ne_nil
  | cons c r => exact ⟨ch, c, r ++ t.cps.toList, by simp, st_digit (by rw [e]; exact List.mem_cons_self)⟩
/-- names made one behind the other: behind lo, up to hi -/
def Rise : Nat → List Str → Nat → Prop
  | lo, [], hi => lo ≤ hi
  | lo, x :: xs, hi => ∃ k, lo < k ∧ Nm x k ∧ Rise k xs hi
theorem Rise.le : ∀ {xs : List Str} {lo hi : Nat}, Rise lo xs hi → lo ≤ hi
  | [], _, _, h => h
  | x :: xs, _, _, ⟨k, h1, _, h3⟩ => Nat.le_trans (Nat.le_of_lt h1) h3.le
theorem Rise.app : ∀ {xs ys : List Str} {lo mid hi : Nat}, Rise lo xs mid → Rise mid ys hi → Rise lo (xs ++ ys) hi
  | [], ys, lo, mid, hi, h, g => by
    cases ys with
    | nil => exact Nat.le_trans h g
    | cons y ys => obtain ⟨k, h1, h2, h3⟩ := g; exact ⟨k, Nat.lt_of_le_of_lt h h1, h2, h3⟩
  | x :: xs, ys, lo, mid, hi, ⟨k, h1, h2, h3⟩, g => ⟨k, h1, h2, h3.app g⟩
theorem Rise.mem : ∀ {xs : List Str} {lo hi : Nat} {x : Str}, Rise lo xs hi → x ∈ xs → ∃ k, lo < k ∧ k ≤ hi ∧ Nm x k
  | y :: ys, lo, hi, x, ⟨k, h1, h2, h3⟩, m => by
    rcases List.mem_cons.mp m with rfl | m
    · exact ⟨k, h1, h3.le, h2⟩
    · obtain ⟨j, a, b, c⟩ := h3.mem m
      exact ⟨j, by omega, b, c⟩
theorem Rise.nodup : ∀ {xs : List Str} {lo hi : Nat}, Rise lo xs hi → xs.Nodup
  | [], _, _, _ => List.nodup_nil
  | x :: xs, lo, hi, ⟨k, h1, h2, h3⟩ => by
    refine List.nodup_cons.mpr ⟨fun m => ?_, h3.nodup⟩
    obtain ⟨j, a, b, c⟩ := h3.mem m
    have := h2.inj c
    omega
theorem Rise.disj {xs ys : List Str} {lo mid hi lo2 hi2 : Nat} (h : Rise lo xs mid) (g : Rise lo2 ys hi2) (l : mid ≤ lo2) : ∀ x ∈ xs, x ∉ ys := fun x m m2 => by
  obtain ⟨j, a, b, c⟩ := h.mem m
  obtain ⟨i, a2, b2, c2⟩ := g.mem m2
  have := c.inj c2
  omega
theorem Rise.mono {xs : List Str} {lo lo2 hi hi2 : Nat} (h : Rise lo xs hi) (l : lo2 ≤ lo) (u : hi ≤ hi2) : Rise lo2 xs hi2 :=
  (show Rise lo2 [] lo from l).app (xs := []) (h.app (ys := []) u |> fun z => by simpa using z)
theorem nodup_app {xs ys : List Str} (h : xs.Nodup) (g : ys.Nodup) (d : ∀ x ∈ xs, x ∉ ys) : (xs ++ ys).Nodup :=
  List.nodup_append.mpr ⟨h, g, fun a ha b hb e => d a ha (e ▸ hb)⟩

end Lw

set_option Elab.async false
set_option linter.all false
set_option maxRecDepth 100000
set_option maxHeartbeats 1000000
namespace Lw
open PySem PySem.Spec PyProof.Rows L2 Mi
local macro_rules | `(tactic| walk_at "mem") => `(tactic| first | exact fun _ z => absurd z List.not_mem_nil | exact List.not_mem_nil | (intro i hi; simp only [List.mem_cons, List.not_mem_nil, or_false, false_or] at hi ⊢; omega) | (simp only [List.mem_cons, List.not_mem_nil, or_false, false_or, not_or]; omega))
local macro_rules | `(tactic| walk_at "get") => `(tactic| first | assumption | (apply Keep.get; assumption; walk_at "get"; walk_at "mem"))
local macro_rules | `(tactic| walk_at "keep") => `(tactic| first | assumption | exact Keep.refl | (apply Keep.step; assumption; walk_at "keep"; walk_at "mem"))
local macro_rules | `(tactic| walk_at "one") => `(tactic| (conv => whnf) <;> first
  | (apply br_t; rfl)
  | (apply br_f; rfl)
  | (apply rdO_i; walk_at "get")
  | (apply itm_i; first | rfl | assumption | exact getAt_end _ _)
  | (apply new_i; intro p h' e1 l1 l2 l3 k)
  | (apply put_i; walk_at "get"; intro h' e1 l1 k)
  | (apply iLst_i; first | rfl | exact intsOf_map _)
  | (apply chk_i; first | rfl | exact lenOk_le (by simp only [List.length_map, List.length_cons, List.length_append, List.length_take, List.length_nil, List.length_replicate, List.length_dropLast]; omega) | exact small_lt (by simp only [List.length_map, List.length_cons, List.length_append, List.length_take, List.length_nil, List.length_replicate, List.length_dropLast]; omega) | assumption | exact mulOk_r (by decide) | exact mulOk_l (by decide) | exact lenOk_le (by omega) | exact small_lt (by omega) | (simp; omega)))
local macro_rules | `(tactic| walk_at "go") => `(tactic| (repeat walk_at "one"); try (conv => whnf))
local macro_rules | `(tactic| walk_at "br") => `(tactic| (refine br_i (fun hc => ?_) (fun hc => ?_) <;> simp only [Bool.not_eq_true', Bool.not_eq_false', beq_iff_eq, beq_eq_false_iff_ne, ne_eq, decide_eq_true_eq, decide_eq_false_iff_not, bne_iff_ne, bne_eq_false_iff_eq] at hc) <;> first | (exfalso; omega) | walk_at "go")

theorem name_ok {n : Nat} {p c nr : Nat} {h : Hh} {Q : Kd} {X : Ex} (q : Pl h p c nr) (h1 : nr < 1000000000) (hn : 2 ≤ n)
    (w : ∀ (x : Str) (h' : Hh), Nm x (nr + 1) → Pl h' p c ((nr + 1 : Nat) : Int) → h.length ≤ h'.length → Keep [p] h h' → Q (.str x) h') :
    rn n i_law_name [.ref p] h Q X := by
  cases n with
  | zero => omega
  | succ n =>
    refine u_law_name ?_
    have q1 := q.lt
    have hpc := q.ne
    obtain ⟨ne, i, cur, seed, xs, h0, hl, e1, e2⟩ := q
    walk_at "go"
    rename_i h2 e3 l2 k2
    refine take_ok (nr := ((nr + 1 : Nat) : Int)) ⟨ne, i, cur, seed, xs, h0, hl, e3, by walk_at "get"⟩ (by decide) (by decide) (by omega) fun v h3 v0 v1 q3 l3 k3 => ?_
    have letters : ∀ c ∈ w_abcdefghijklmnopqrstuvwxyz.cps.toList, 97 ≤ c ∧ c ≤ 122 := by decide
    obtain ⟨ch, ec, hch⟩ : ∃ ch : Nat, ((ixAt w_abcdefghijklmnopqrstuvwxyz.length v).bind fun j => w_abcdefghijklmnopqrstuvwxyz.cps.toList[j]?) = some ch ∧ 97 ≤ ch ∧ ch ≤ 122 := by
      have hv : v.toNat < 26 := by omega
      have e1 : ixAt w_abcdefghijklmnopqrstuvwxyz.length v = some v.toNat := by
        have : w_abcdefghijklmnopqrstuvwxyz.length = 26 := rfl
        unfold ixAt
        rw [this, if_pos v0, if_pos (by omega)]
      have : w_abcdefghijklmnopqrstuvwxyz.cps.toList.length = 26 := rfl
      exact ⟨w_abcdefghijklmnopqrstuvwxyz.cps.toList[v.toNat]'(by omega), by rw [e1]; simp [this, hv], letters _ (List.getElem_mem _)⟩
    have hq := q3
    obtain ⟨_, i3, cur3, seed3, xs3, z1, z2, z3, z4⟩ := q3
    have hL : (PySem.Str.ofString (toString ((nr + 1 : Nat) : Int))).length ≤ 10 := toString_length_le (by omega) (by decide) (by omega)
    conv => whnf
    refine sgn_i ec (by decide) ?_
    walk_at "go"
    have hA : ∀ a b : Str, (a ++ b).length = a.length + b.length := fun a b => by show (a.cps ++ b.cps).size = _; simp [Str.length]
    have hC : (⟨#[ch]⟩ : Str).length = 1 := rfl
    refine chk_i (lenOk_le (by omega)) ?_
    walk_at "go"
    refine take_ok hq (by decide) (by decide) (by omega) fun t h4 t0 t1 q4 l4 k4 => ?_
    have fin : ∀ z : Str, z.length ≤ 2 → (z = w_ ∨ z = w_q ∨ z = w_a0) → opBin .add (.str (⟨#[ch]⟩ ++ Str.ofString (toString ((nr + 1 : Nat) : Int)))) (.str z) h4 Q := fun z hz hz2 => by
      refine chk_i (lenOk_le ?_) (w _ _ ⟨ch, z, hch.1, hch.2, hz2, rfl⟩ q4 (by omega) (by walk_at "keep"))
      have := hA ⟨#[ch]⟩ (Str.ofString (toString ((nr + 1 : Nat) : Int)))
      omega
    rcases (show t = 0 ∨ t = 1 ∨ t = 2 ∨ t = 3 by omega) with rfl | rfl | rfl | rfl
    all_goals
      refine itm_i rfl ?_
      exact fin _ (by decide) (by first | exact .inl rfl | exact .inr (.inl rfl) | exact .inr (.inr rfl))

end Lw

set_option Elab.async false
set_option linter.all false
set_option maxRecDepth 100000
set_option maxHeartbeats 1000000
namespace Lw
open PySem PySem.Spec PyProof.Rows L2 Mi
local macro_rules | `(tactic| walk_at "mem") => `(tactic| first | exact fun _ z => absurd z List.not_mem_nil | exact List.not_mem_nil | (intro i hi; simp only [List.mem_cons, List.not_mem_nil, or_false, false_or] at hi ⊢; omega) | (simp only [List.mem_cons, List.not_mem_nil, or_false, false_or, not_or]; omega))
local macro_rules | `(tactic| walk_at "get") => `(tactic| first | assumption | (apply Keep.get; assumption; walk_at "get"; walk_at "mem"))
local macro_rules | `(tactic| walk_at "keep") => `(tactic| first | assumption | exact Keep.refl | (apply Keep.step; assumption; walk_at "keep"; walk_at "mem"))
local macro_rules | `(tactic| walk_at "one") => `(tactic| (conv => whnf) <;> first
  | (apply br_t; rfl)
  | (apply br_f; rfl)
  | (apply rdO_i; walk_at "get")
  | (apply itm_i; first | rfl | assumption | exact getAt_end _ _)
  | (apply new_i; intro p h' e1 l1 l2 l3 k)
  | (apply put_i; walk_at "get"; intro h' e1 l1 k)
  | (apply iLst_i; first | rfl | exact intsOf_map _)
  | (apply chk_i; first | rfl | exact lenOk_le (by simp only [List.length_map, List.length_cons, List.length_append, List.length_take, List.length_nil, List.length_replicate, List.length_dropLast]; omega) | exact small_lt (by simp only [List.length_map, List.length_cons, List.length_append, List.length_take, List.length_nil, List.length_replicate, List.length_dropLast]; omega) | assumption | exact mulOk_r (by decide) | exact mulOk_l (by decide) | exact lenOk_le (by omega) | exact small_lt (by omega) | (simp; omega)))
local macro_rules | `(tactic| walk_at "go") => `(tactic| (repeat walk_at "one"); try (conv => whnf))
local macro_rules | `(tactic| walk_at "br") => `(tactic| (refine br_i (fun hc => ?_) (fun hc => ?_) <;> simp only [Bool.not_eq_true', Bool.not_eq_false', beq_iff_eq, beq_eq_false_iff_ne, ne_eq, decide_eq_true_eq, decide_eq_false_iff_not, bne_iff_ne, bne_eq_false_iff_eq] at hc) <;> first | (exfalso; omega) | walk_at "go")

inductive Ow where | add | sub | mul | less | same
def Ow.s : Ow → Str | .add => w_add | .sub => w_sub | .mul => w_mul | .less => w_less | .same => w_same
inductive Ep where | num (n : Int) | nam (x : Str) | inn | op (o : Ow) (a b : Ep) | call (x : Str) (as : List Ep)
mutual
def Ep.d : Ep → D
  | .num n => .tup [.str w_number, .int n]
  | .nam x => .tup [.str w_name, .str x]
  | .inn => .tup [.str w_in]
  | .op o a b => .tup [.str o.s, a.d, b.d]
  | .call x as => .tup [.str w_call, .str x, .tup (Ep.ds as)]
def Ep.ds : List Ep → List D
  | [] => []
  | a :: as => a.d :: Ep.ds as
end
mutual
def Ep.ht : Ep → Nat
  | .op _ a b => max a.ht b.ht + 1
  | .call _ as => Ep.hts as + 1
  | _ => 1
def Ep.hts : List Ep → Nat
  | [] => 0
  | a :: as => max a.ht (Ep.hts as)
end
mutual
def Ep.fit : Ep → Prop
  | .num n => 0 ≤ n ∧ n < 65536
  | .op _ a b => a.fit ∧ b.fit
  | .call _ as => as.length ≤ 3 ∧ Ep.fits as
  | _ => True
def Ep.fits : List Ep → Prop
  | [] => True
  | a :: as => a.fit ∧ Ep.fits as
end
mutual
/-- its names hold P, its funs hold F -/
def Ep.sc (P F : Str → Prop) : Ep → Prop
  | .nam x => P x
  | .op _ a b => a.sc P F ∧ b.sc P F
  | .call x as => F x ∧ Ep.scs P F as
  | _ => True
def Ep.scs (P F : Str → Prop) : List Ep → Prop
  | [] => True
  | a :: as => a.sc P F ∧ Ep.scs P F as
end
theorem scs_app {P F : Str → Prop} : ∀ (as bs : List Ep), Ep.scs P F as → Ep.scs P F bs → Ep.scs P F (as ++ bs)
  | [], _, _, b => b
  | a :: as, bs, f, b => ⟨f.1, scs_app as bs f.2 b⟩
mutual
theorem sc_mono {P F P' F' : Str → Prop} (hp : ∀ x, P x → P' x) (hf : ∀ x, F x → F' x) : ∀ e : Ep, e.sc P F → e.sc P' F'
  | .num _, _ => trivial
  | .nam _, h => hp _ h
  | .inn, _ => trivial
  | .op _ a b, h => ⟨sc_mono hp hf a h.1, sc_mono hp hf b h.2⟩
  | .call _ as, h => ⟨hf _ h.1, scs_mono hp hf as h.2⟩
theorem scs_mono {P F P' F' : Str → Prop} (hp : ∀ x, P x → P' x) (hf : ∀ x, F x → F' x) : ∀ as : List Ep, Ep.scs P F as → Ep.scs P' F' as
  | [], _ => trivial
  | a :: as, h => ⟨sc_mono hp hf a h.1, scs_mono hp hf as h.2⟩
end
theorem ds_len : ∀ as : List Ep, (Ep.ds as).length = as.length
  | [] => rfl
  | a :: as => by show (Ep.ds as).length + 1 = _; rw [ds_len as]; rfl
theorem ds_app : ∀ (as bs : List Ep), Ep.ds (as ++ bs) = Ep.ds as ++ Ep.ds bs
  | [], _ => rfl
  | a :: as, bs => by show a.d :: Ep.ds (as ++ bs) = _; rw [ds_app as bs]; rfl
theorem fits_app : ∀ (as bs : List Ep), Ep.fits as → Ep.fits bs → Ep.fits (as ++ bs)
  | [], _, _, b => b
  | a :: as, bs, f, b => ⟨f.1, fits_app as bs f.2 b⟩
theorem hts_app : ∀ (as bs : List Ep) (m : Nat), Ep.hts as ≤ m → Ep.hts bs ≤ m → Ep.hts (as ++ bs) ≤ m
  | [], _, _, _, b => b
  | a :: as, bs, m, f, b => by
    have e : Ep.hts (a :: as) = max a.ht (Ep.hts as) := rfl
    have e2 : Ep.hts (a :: as ++ bs) = max a.ht (Ep.hts (as ++ bs)) := rfl
    have := hts_app as bs m (by omega) b
    omega
theorem range_len : ∀ (m : Nat) (lo : Int) (i : Nat), (range m lo i).length = m
  | 0, _, _ => rfl
  | m + 1, lo, i => by unfold range; simp [range_len m lo (i + 1)]
def fD (f : Str × Nat) : D := .tup [.str f.1, .int f.2]
theorem dec_lt {a b : Int} (h : b < a) : decide (a > b) = true := decide_eq_true h
theorem expr_ok : ∀ (d n : Nat) (p c nm fu : Nat) (xs : List Str) (fs : List (Str × Nat)) (z nr : Int) (h : Hh) (Q : Kd) (X : Ex), d + 2 ≤ n → z = d → Pl h p c nr →
    h[nm]? = some (.lst (xs.map .str)) → h[fu]? = some (.lst (fs.map fD)) → xs.length ≤ 70000 → fs.length ≤ 70000 → (∀ f ∈ fs, f.2 ≤ 3) → nm ≠ p → nm ≠ c → fu ≠ p → fu ≠ c →
    (∀ (e : Ep) (h' : Hh), e.fit → e.sc (· ∈ xs) (· ∈ fs.map (·.1)) → e.ht ≤ d + 1 → Pl h' p c nr → h.length ≤ h'.length → Keep [p] h h' → Q e.d h') → rn n i_law_expression [.ref p, .ref nm, .ref fu, .int z] h Q X
  | _, 0, _, _, _, _, _, _, _, _, _, _, _, hn, _, _, _, _, _, _, _, _, _, _, _, _ => absurd hn (by omega)
  | d, n + 1, p, c, nm, fu, xs, fs, z, nr, h, Q, X, hn, hz, pl, es, ef, lx, lf, hf, n1, n2, n3, n4, w => by
    have s1 := pl.lt
    have s2 := lt_of es
    have s3 := lt_of ef
    have hlx : (List.map D.str xs).length = xs.length := List.length_map ..
    have hlf : (List.map fD fs).length = fs.length := List.length_map ..
    refine u_law_expression ?_
    walk_at "go"
    walk_at "br"
    case' refine_1 => refine take_ok pl (by decide) (by decide) (by omega) fun v h1 v0 v1 pl1 l1 k1 => ?_
    case' refine_2 => refine take_ok pl (by decide) (by decide) (by omega) fun v h1 v0 v1 pl1 l1 k1 => ?_
    all_goals have e1 : h1[nm]? = some (.lst (xs.map .str)) := by walk_at "get"
    all_goals have e2 : h1[fu]? = some (.lst (fs.map fD)) := by walk_at "get"
    all_goals rcases (show v = 0 ∨ v = 1 ∨ v = 2 ∨ (3 ≤ v ∧ v < 8) ∨ 8 ≤ v by omega) with rfl | rfl | rfl | hv | hv
    case refine_1.inl =>
      walk_at "go"
      refine take_ok pl1 (by decide) (by decide) (by omega) fun a h2 a0 a1 pl2 l2 k2 => ?_
      walk_at "go"
      refine take_ok pl2 (by decide) (by decide) (by omega) fun b h3 b0 b1 pl3 l3 k3 => ?_
      walk_at "go"
      refine take_ok pl3 (by decide) (by decide) (by omega) fun c2 h4 c0 c1 pl4 l4 k4 => ?_
      rcases (show c2 = 0 ∨ c2 = 1 ∨ c2 = 2 ∨ c2 = 3 ∨ c2 = 4 by omega) with rfl | rfl | rfl | rfl | rfl <;> (walk_at "go"; exact w (.num _) _ (by constructor <;> omega) trivial (by simp [Ep.ht]) (by assumption) (by omega) (by walk_at "keep"))
    case refine_2.inl =>
      walk_at "go"
      refine take_ok pl1 (by decide) (by decide) (by omega) fun a h2 a0 a1 pl2 l2 k2 => ?_
      walk_at "go"
      refine take_ok pl2 (by decide) (by decide) (by omega) fun b h3 b0 b1 pl3 l3 k3 => ?_
      walk_at "go"
      refine take_ok pl3 (by decide) (by decide) (by omega) fun c2 h4 c0 c1 pl4 l4 k4 => ?_
      rcases (show c2 = 0 ∨ c2 = 1 ∨ c2 = 2 ∨ c2 = 3 ∨ c2 = 4 by omega) with rfl | rfl | rfl | rfl | rfl <;> (walk_at "go"; exact w (.num _) _ (by constructor <;> omega) trivial (by simp [Ep.ht]) (by assumption) (by omega) (by walk_at "keep"))
    case refine_1.inr.inl =>
      walk_at "go"
      walk_at "br"
      · refine take_ok pl1 (by decide) (by decide) (by omega) fun a h2 a0 a1 pl2 l2 k2 => ?_
        walk_at "go"
        refine take_ok pl2 (by decide) (by decide) (by omega) fun b h3 b0 b1 pl3 l3 k3 => ?_
        walk_at "go"
        refine take_ok pl3 (by decide) (by decide) (by omega) fun c2 h4 c0 c1 pl4 l4 k4 => ?_
        rcases (show c2 = 0 ∨ c2 = 1 ∨ c2 = 2 ∨ c2 = 3 ∨ c2 = 4 by omega) with rfl | rfl | rfl | rfl | rfl <;> (walk_at "go"; exact w (.num _) _ (by constructor <;> omega) trivial (by simp [Ep.ht]) (by assumption) (by omega) (by walk_at "keep"))
      · refine take_ok pl1 (by omega) (by omega) (by omega) fun a h2 a0 a1 pl2 l2 k2 => ?_
        obtain ⟨y, my, ey⟩ := getAt_ok (f := D.str) a0 (hlx ▸ a1)
        have es2 : h2[nm]? = some (.lst (xs.map .str)) := by walk_at "get"
        walk_at "go"
        exact w (.nam y) _ trivial my (by simp [Ep.ht]) (by assumption) (by omega) (by walk_at "keep")
    case refine_2.inr.inl =>
      walk_at "go"
      walk_at "br"
      · refine take_ok pl1 (by decide) (by decide) (by omega) fun a h2 a0 a1 pl2 l2 k2 => ?_
        walk_at "go"
        refine take_ok pl2 (by decide) (by decide) (by omega) fun b h3 b0 b1 pl3 l3 k3 => ?_
        walk_at "go"
        refine take_ok pl3 (by decide) (by decide) (by omega) fun c2 h4 c0 c1 pl4 l4 k4 => ?_
        rcases (show c2 = 0 ∨ c2 = 1 ∨ c2 = 2 ∨ c2 = 3 ∨ c2 = 4 by omega) with rfl | rfl | rfl | rfl | rfl <;> (walk_at "go"; exact w (.num _) _ (by constructor <;> omega) trivial (by simp [Ep.ht]) (by assumption) (by omega) (by walk_at "keep"))
      · refine take_ok pl1 (by omega) (by omega) (by omega) fun a h2 a0 a1 pl2 l2 k2 => ?_
        obtain ⟨y, my, ey⟩ := getAt_ok (f := D.str) a0 (hlx ▸ a1)
        have es2 : h2[nm]? = some (.lst (xs.map .str)) := by walk_at "get"
        walk_at "go"
        exact w (.nam y) _ trivial my (by simp [Ep.ht]) (by assumption) (by omega) (by walk_at "keep")
    case refine_1.inr.inr.inl =>
      walk_at "go"
      exact w .inn _ trivial trivial (by simp [Ep.ht]) (by assumption) (by omega) (by walk_at "keep")
    case refine_2.inr.inr.inl =>
      walk_at "go"
      exact w .inn _ trivial trivial (by simp [Ep.ht]) (by assumption) (by omega) (by walk_at "keep")
    case refine_2.inr.inr.inr.inl => omega
    case refine_2.inr.inr.inr.inr => omega
    case refine_1.inr.inr.inr.inl =>
      obtain ⟨d, rfl⟩ : ∃ d', d = d' + 1 := ⟨d - 1, by omega⟩
      walk_at "go"
      iterate 8 try walk_at "br"
      refine take_ok pl1 (by decide) (by decide) (by omega) fun a h2 a0 a1 pl2 l2 k2 => ?_
      rcases (show a = 0 ∨ a = 1 ∨ a = 2 ∨ a = 3 ∨ a = 4 by omega) with rfl | rfl | rfl | rfl | rfl
      all_goals
        walk_at "go"
        refine expr_ok d n p c nm fu xs fs _ _ _ _ _ (by omega) (by omega) pl2 (by walk_at "get") (by walk_at "get") lx lf hf n1 n2 n3 n4 fun e1 h3 f1 sc1 t1 pl3 l3 k3 => ?_
        walk_at "go"
        refine expr_ok d n p c nm fu xs fs _ _ _ _ _ (by omega) (by omega) pl3 (by walk_at "get") (by walk_at "get") lx lf hf n1 n2 n3 n4 fun e2 h4 f2 sc2 t2 pl4 l4 k4 => ?_
        walk_at "go"
      · exact w (.op .add e1 e2) _ ⟨f1, f2⟩ ⟨sc1, sc2⟩ (by simp only [Ep.ht]; omega) (by assumption) (by omega) (by walk_at "keep")
      · exact w (.op .sub e1 e2) _ ⟨f1, f2⟩ ⟨sc1, sc2⟩ (by simp only [Ep.ht]; omega) (by assumption) (by omega) (by walk_at "keep")
      · exact w (.op .mul e1 e2) _ ⟨f1, f2⟩ ⟨sc1, sc2⟩ (by simp only [Ep.ht]; omega) (by assumption) (by omega) (by walk_at "keep")
      · exact w (.op .less e1 e2) _ ⟨f1, f2⟩ ⟨sc1, sc2⟩ (by simp only [Ep.ht]; omega) (by assumption) (by omega) (by walk_at "keep")
      · exact w (.op .same e1 e2) _ ⟨f1, f2⟩ ⟨sc1, sc2⟩ (by simp only [Ep.ht]; omega) (by assumption) (by omega) (by walk_at "keep")
    case refine_1.inr.inr.inr.inr =>
      obtain rfl : v = 8 := by omega
      obtain ⟨d, rfl⟩ : ∃ d', d = d' + 1 := ⟨d - 1, by omega⟩
      walk_at "go"
      walk_at "br"
      · refine take_ok pl1 (by omega) (by omega) (by omega) fun a h2 a0 a1 pl2 l2 k2 => ?_
        obtain ⟨⟨y, m⟩, my, ey⟩ := getAt_ok (f := fD) a0 (hlf ▸ a1)
        have hm : m ≤ 3 := hf _ my
        have es2 : h2[nm]? = some (.lst (xs.map .str)) := by walk_at "get"
        have ef2 : h2[fu]? = some (.lst (fs.map fD)) := by walk_at "get"
        unfold fD at ey
        walk_at "go"
        rename_i q h3 e3 g1 g2 g3 k3
        refine comp_i (I := fun r acc h' => ∃ as : List Ep, acc = Ep.ds as ∧ Ep.fits as ∧ Ep.scs (· ∈ xs) (· ∈ fs.map (·.1)) as ∧ Ep.hts as ≤ d + 1 ∧ r.length + as.length = m ∧ Pl h' p c nr ∧ h3.length ≤ h'.length ∧ Keep [p, q] h3 h') ?_ ?_ _ _ _ e3 ⟨[], rfl, trivial, trivial, by simp [Ep.hts], by rw [range_len]; simp, pl2.mono k3 List.not_mem_nil List.not_mem_nil, Nat.le_refl _, Keep.refl⟩
        · rintro x r acc h4 K e4 ⟨as, rfl, ff, scc, tt, ll, pl4, l4, k4⟩ hK
          walk_at "go"
          refine expr_ok d n p c nm fu xs fs _ _ _ _ _ (by omega) (by omega) pl4 (by walk_at "get") (by walk_at "get") lx lf hf n1 n2 n3 n4 fun e1 h5 f1 sc1 t1 pl5 l5 k5 => ?_
          have e5 : h5[q]? = some (.lst (Ep.ds as)) := by walk_at "get"
          have hl := ds_len as
          simp only [List.length_cons] at ll
          refine rdL_i e5 (chk_i (small_lt (by omega)) (put_i e5 fun h6 e6 l6 k6 => hK _ _ e6 ⟨as ++ [e1], by rw [ds_app]; rfl, fits_app _ _ ff ⟨f1, trivial⟩, scs_app _ _ scc ⟨sc1, trivial⟩, hts_app _ _ _ tt (by simp only [Ep.hts]; omega), by simp only [List.length_append, List.length_singleton]; omega, ?_, by omega, by walk_at "keep"⟩))
          exact pl5.mono k6 (by walk_at "mem") (by walk_at "mem")
        · rintro acc h4 e4 ⟨as, rfl, ff, scc, tt, ll, pl4, l4, k4⟩
          have hl := ds_len as
          simp only [List.length_nil] at ll
          walk_at "go"
          exact w (.call y as) _ ⟨by omega, ff⟩ ⟨List.mem_map.mpr ⟨_, my, rfl⟩, scc⟩ (by simp only [Ep.ht]; omega) pl4 (by omega) (by walk_at "keep")
      · refine take_ok pl1 (by decide) (by decide) (by omega) fun a h2 a0 a1 pl2 l2 k2 => ?_
        rcases (show a = 0 ∨ a = 1 ∨ a = 2 ∨ a = 3 ∨ a = 4 by omega) with rfl | rfl | rfl | rfl | rfl
        all_goals
          walk_at "go"
          refine expr_ok d n p c nm fu xs fs _ _ _ _ _ (by omega) (by omega) pl2 (by walk_at "get") (by walk_at "get") lx lf hf n1 n2 n3 n4 fun e1 h3 f1 sc1 t1 pl3 l3 k3 => ?_
          walk_at "go"
          refine expr_ok d n p c nm fu xs fs _ _ _ _ _ (by omega) (by omega) pl3 (by walk_at "get") (by walk_at "get") lx lf hf n1 n2 n3 n4 fun e2 h4 f2 sc2 t2 pl4 l4 k4 => ?_
          walk_at "go"
        · exact w (.op .add e1 e2) _ ⟨f1, f2⟩ ⟨sc1, sc2⟩ (by simp only [Ep.ht]; omega) (by assumption) (by omega) (by walk_at "keep")
        · exact w (.op .sub e1 e2) _ ⟨f1, f2⟩ ⟨sc1, sc2⟩ (by simp only [Ep.ht]; omega) (by assumption) (by omega) (by walk_at "keep")
        · exact w (.op .mul e1 e2) _ ⟨f1, f2⟩ ⟨sc1, sc2⟩ (by simp only [Ep.ht]; omega) (by assumption) (by omega) (by walk_at "keep")
        · exact w (.op .less e1 e2) _ ⟨f1, f2⟩ ⟨sc1, sc2⟩ (by simp only [Ep.ht]; omega) (by assumption) (by omega) (by walk_at "keep")
        · exact w (.op .same e1 e2) _ ⟨f1, f2⟩ ⟨sc1, sc2⟩ (by simp only [Ep.ht]; omega) (by assumption) (by omega) (by walk_at "keep")

end Lw

set_option Elab.async false
set_option linter.all false
set_option maxRecDepth 100000
set_option maxHeartbeats 1000000
namespace Lw
open PySem PySem.Spec PyProof.Rows L2 Mi
local macro_rules | `(tactic| walk_at "mem") => `(tactic| first | exact fun _ z => absurd z List.not_mem_nil | exact List.not_mem_nil | (intro i hi; simp only [List.mem_cons, List.not_mem_nil, or_false, false_or] at hi ⊢; omega) | (simp only [List.mem_cons, List.not_mem_nil, or_false, false_or, not_or]; omega))
local macro_rules | `(tactic| walk_at "get") => `(tactic| first | assumption | (apply Keep.get; assumption; walk_at "get"; walk_at "mem"))
local macro_rules | `(tactic| walk_at "keep") => `(tactic| first | assumption | exact Keep.refl | (apply Keep.step; assumption; walk_at "keep"; walk_at "mem"))
local macro_rules | `(tactic| walk_at "one") => `(tactic| (conv => whnf) <;> first
  | (apply br_t; rfl)
  | (apply br_f; rfl)
  | (apply rdO_i; walk_at "get")
  | (apply itm_i; first | rfl | assumption | exact getAt_end _ _)
  | (apply new_i; intro p h' e1 l1 l2 l3 k)
  | (apply put_i; walk_at "get"; intro h' e1 l1 k)
  | (apply iLst_i; first | rfl | exact intsOf_map _)
  | (apply chk_i; first | rfl | exact lenOk_le (by simp only [List.length_map, List.length_cons, List.length_append, List.length_take, List.length_nil, List.length_replicate, List.length_dropLast]; omega) | exact small_lt (by simp only [List.length_map, List.length_cons, List.length_append, List.length_take, List.length_nil, List.length_replicate, List.length_dropLast]; omega) | assumption | exact mulOk_r (by decide) | exact mulOk_l (by decide) | exact lenOk_le (by omega) | exact small_lt (by omega) | (simp; omega)))
local macro_rules | `(tactic| walk_at "go") => `(tactic| (repeat walk_at "one"); try (conv => whnf))
local macro_rules | `(tactic| walk_at "br") => `(tactic| (refine br_i (fun hc => ?_) (fun hc => ?_) <;> simp only [Bool.not_eq_true', Bool.not_eq_false', beq_iff_eq, beq_eq_false_iff_ne, ne_eq, decide_eq_true_eq, decide_eq_false_iff_not, bne_iff_ne, bne_eq_false_iff_eq] at hc) <;> first | (exfalso; omega) | walk_at "go")

inductive St where
  | var (x : Str) (e : Ep) | set (x : Str) (e : Ep) | call (x : Str) (as : List Ep) | hold (b : List St) | whl (e : Ep) (b : List St) | ifs (e : Ep) (b c : List St) | ret (e : Ep) | out (e : Ep)
mutual
def St.d : St → D
  | .var x e => .tup [.str w_var, .str x, e.d]
  | .set x e => .tup [.str w_set, .str x, e.d]
  | .call x as => .tup [.str w_call, .str x, .tup (Ep.ds as)]
  | .hold b => .tup [.str w_hold, .tup (St.ds b)]
  | .whl e b => .tup [.str w_while, e.d, .tup (St.ds b)]
  | .ifs e b c => .tup [.str w_if, e.d, .tup (St.ds b), .tup (St.ds c)]
  | .ret e => .tup [.str w_return, e.d]
  | .out e => .tup [.str w_out, e.d]
def St.ds : List St → List D
  | [] => []
  | s :: b => s.d :: St.ds b
end
mutual
def St.fit : St → Prop
  | .var _ e => e.fit ∧ e.ht ≤ 8
  | .set _ e => e.fit ∧ e.ht ≤ 8
  | .call x as => (Ep.call x as).fit ∧ (Ep.call x as).ht ≤ 9
  | .hold b => St.fits b
  | .whl e b => (e.fit ∧ e.ht ≤ 8) ∧ St.fits b
  | .ifs e b c => (e.fit ∧ e.ht ≤ 8) ∧ St.fits b ∧ St.fits c
  | .ret e => e.fit ∧ e.ht ≤ 8
  | .out e => e.fit ∧ e.ht ≤ 8
def St.fits : List St → Prop
  | [] => True
  | s :: b => s.fit ∧ St.fits b
end
mutual
def St.ht : St → Nat
  | .hold b => St.bht b + 1
  | .whl _ b => St.bht b + 1
  | .ifs _ b c => max (St.bht b) (St.bht c) + 1
  | _ => 0
def St.bht : List St → Nat
  | [] => 0
  | s :: b => max s.ht (St.bht b)
end
mutual
def St.sc (P F : Str → Prop) : St → Prop
  | .var x e => P x ∧ e.sc P F
  | .set x e => P x ∧ e.sc P F
  | .call x as => F x ∧ Ep.scs P F as
  | .hold b => St.scs P F b
  | .whl e b => e.sc P F ∧ St.scs P F b
  | .ifs e b c => e.sc P F ∧ St.scs P F b ∧ St.scs P F c
  | .ret e => e.sc P F
  | .out e => e.sc P F
def St.scs (P F : Str → Prop) : List St → Prop
  | [] => True
  | s :: b => s.sc P F ∧ St.scs P F b
end
mutual
/-- the locals, in the text's sequence -/
def St.vars : St → List Str
  | .var x _ => [x]
  | .hold b => St.bvars b
  | .whl _ b => St.bvars b
  | .ifs _ b c => St.bvars b ++ St.bvars c
  | _ => []
def St.bvars : List St → List Str
  | [] => []
  | s :: b => s.vars ++ St.bvars b
end
mutual
theorem ssc_mono {P F P' F' : Str → Prop} (hp : ∀ x, P x → P' x) (hf : ∀ x, F x → F' x) : ∀ s : St, s.sc P F → s.sc P' F'
  | .var x e, h => ⟨hp _ h.1, sc_mono hp hf e h.2⟩
  | .set x e, h => ⟨hp _ h.1, sc_mono hp hf e h.2⟩
  | .call x as, h => ⟨hf _ h.1, scs_mono hp hf as h.2⟩
  | .hold b, h => sscs_mono hp hf b h
  | .whl e b, h => ⟨sc_mono hp hf e h.1, sscs_mono hp hf b h.2⟩
  | .ifs e b c, h => ⟨sc_mono hp hf e h.1, sscs_mono hp hf b h.2.1, sscs_mono hp hf c h.2.2⟩
  | .ret e, h => sc_mono hp hf e h
  | .out e, h => sc_mono hp hf e h
theorem sscs_mono {P F P' F' : Str → Prop} (hp : ∀ x, P x → P' x) (hf : ∀ x, F x → F' x) : ∀ b : List St, St.scs P F b → St.scs P' F' b
  | [], _ => trivial
  | s :: b, h => ⟨ssc_mono hp hf s h.1, sscs_mono hp hf b h.2⟩
end
theorem sscs_app {P F : Str → Prop} : ∀ (as bs : List St), St.scs P F as → St.scs P F bs → St.scs P F (as ++ bs)
  | [], _, _, b => b
  | a :: as, bs, f, b => ⟨f.1, sscs_app as bs f.2 b⟩
theorem bvars_app : ∀ (as bs : List St), St.bvars (as ++ bs) = St.bvars as ++ St.bvars bs
  | [], _ => rfl
  | a :: as, bs => by show a.vars ++ St.bvars (as ++ bs) = _; rw [bvars_app as bs, ← List.append_assoc]; rfl
theorem sds_app : ∀ (a b : List St), St.ds (a ++ b) = St.ds a ++ St.ds b
  | [], _ => rfl
  | a :: as, bs => by show a.d :: St.ds (as ++ bs) = _; rw [sds_app as bs]; rfl
theorem sds_len : ∀ as : List St, (St.ds as).length = as.length
  | [] => rfl
  | a :: as => by show (St.ds as).length + 1 = _; rw [sds_len as]; rfl
theorem sfits_app : ∀ (as bs : List St), St.fits as → St.fits bs → St.fits (as ++ bs)
  | [], _, _, b => b
  | a :: as, bs, f, b => ⟨f.1, sfits_app as bs f.2 b⟩
theorem sbht_app : ∀ (as bs : List St) (m : Nat), St.bht as ≤ m → St.bht bs ≤ m → St.bht (as ++ bs) ≤ m
  | [], _, _, _, b => b
  | a :: as, bs, m, f, b => by
    have e : St.bht (a :: as) = max a.ht (St.bht as) := rfl
    have e2 : St.bht (a :: as ++ bs) = max a.ht (St.bht (as ++ bs)) := rfl
    have := sbht_app as bs m (by omega) b
    omega
/-! how great they are -/
mutual
theorem ep_gr : ∀ e : Ep, e.fit → gr e.d + 2 ≤ 2 * 3 ^ e.ht
  | .num _, _ => by simp [Ep.d, gr, grs, Ep.ht]
  | .nam _, _ => by simp [Ep.d, gr, grs, Ep.ht]
  | .inn, _ => by simp [Ep.d, gr, grs, Ep.ht]
  | .op o a b, f => by
    have ha := ep_gr a f.1
    have hb := ep_gr b f.2
    have h1 : 3 ^ a.ht ≤ 3 ^ max a.ht b.ht := Nat.pow_le_pow_right (by omega) (Nat.le_max_left _ _)
    have h2 : 3 ^ b.ht ≤ 3 ^ max a.ht b.ht := Nat.pow_le_pow_right (by omega) (Nat.le_max_right _ _)
    have h3 : 1 ≤ 3 ^ max a.ht b.ht := Nat.one_le_pow _ _ (by omega)
    simp only [Ep.d, gr, grs, Ep.ht, Nat.pow_succ]
    omega
  | .call x as, f => by
    have ha := ep_grs as f.2
    have h1 : as.length ≤ 3 := f.1
    have h3 : 1 ≤ 3 ^ Ep.hts as := Nat.one_le_pow _ _ (by omega)
    have h4 : as.length * (2 * 3 ^ Ep.hts as) ≤ 3 * (2 * 3 ^ Ep.hts as) := Nat.mul_le_mul_right _ h1
    simp only [Ep.d, gr, grs, Ep.ht, Nat.pow_succ]
    rcases (show as.length = 0 ∨ 1 ≤ as.length by omega) with h5 | h5
    · have := List.eq_nil_of_length_eq_zero h5
      subst this
      simp [Ep.ds, grs, Ep.hts]
    · rcases (show as.length = 1 ∨ as.length = 2 ∨ as.length = 3 by omega) with h6 | h6 | h6 <;> rw [h6] at ha <;> omega
theorem ep_grs : ∀ as : List Ep, Ep.fits as → grs (Ep.ds as) + 2 * as.length ≤ as.length * (2 * 3 ^ Ep.hts as)
  | [], _ => by simp [Ep.ds, grs]
  | a :: as, f => by
    have ha := ep_gr a f.1
    have hb := ep_grs as f.2
    have h1 : 3 ^ a.ht ≤ 3 ^ max a.ht (Ep.hts as) := Nat.pow_le_pow_right (by omega) (Nat.le_max_left _ _)
    have h2 : 3 ^ Ep.hts as ≤ 3 ^ max a.ht (Ep.hts as) := Nat.pow_le_pow_right (by omega) (Nat.le_max_right _ _)
    have h3 : as.length * (2 * 3 ^ Ep.hts as) ≤ as.length * (2 * 3 ^ max a.ht (Ep.hts as)) := Nat.mul_le_mul_left _ (by omega)
    show gr a.d + grs (Ep.ds as) + 2 * (as.length + 1) ≤ (as.length + 1) * (2 * 3 ^ max a.ht (Ep.hts as))
    rw [Nat.add_mul]
    omega
end
theorem ep_gr3 {e : Ep} (f : e.fit) (h : e.ht ≤ 3) : gr e.d ≤ 52 := by
  have := ep_gr e f
  have : 3 ^ e.ht ≤ 3 ^ 3 := Nat.pow_le_pow_right (by omega) h
  omega
def SB : Nat → Nat
  | 0 => 70
  | d + 1 => 600 * 9 ^ d + 70
theorem SB_le (d : Nat) : 4 * SB d + 1 ≤ 300 * 9 ^ d := by
  cases d with
  | zero => decide
  | succ d =>
    have := Nat.one_le_pow d 9 (by omega)
    simp only [SB, Nat.pow_succ]
    omega
theorem SB_70 (d : Nat) : 70 ≤ SB d := by cases d <;> simp [SB]
def BlkSpec (d : Nat) : Prop := ∀ (n : Nat) (p c nm fu : Nat) (k : Str) (xs : List Str) (fs : List (Str × Nat)) (z : Int) (nr : Nat) (bb : Bool) (h : Hh) (Q : Kd) (X : Ex), d + 5 ≤ n → z = d → Pl h p c nr → nr + 300 * 9 ^ d < 1000000000 →
    h[nm]? = some (.lst (xs.map .str)) → h[fu]? = some (.lst (fs.map fD)) → xs.length + 4 * (d + 1) ≤ 1000 → fs.length ≤ 1000 → (∀ f ∈ fs, f.2 ≤ 3) → nm ≠ p → nm ≠ c → fu ≠ p → fu ≠ c →
    (∀ (b : List St) (nr' : Nat) (h' : Hh), St.fits b → St.scs (fun x => x ∈ xs ∨ x ∈ St.bvars b) (· ∈ fs.map (·.1)) b → Rise nr (St.bvars b) nr' → St.bht b ≤ d → b.length ≤ 4 → grs (St.ds b) + 1 ≤ 300 * 9 ^ d → Pl h' p c nr' → nr ≤ nr' → nr' ≤ nr + grs (St.ds b) → nr' ≤ nr + 4 * 8 ^ d → h.length ≤ h'.length → Keep [p] h h' → Q (.tup (St.ds b)) h') →
    rn n i_law_block [.ref p, .str k, .ref nm, .ref fu, .int z, .bl bb] h Q X
theorem blk_of (d : Nat) (ih : ∀ d', d = d' + 1 → BlkSpec d') : BlkSpec d
  | 0, _, _, _, _, _, _, _, _, _, _, _, _, _, hn, _, _, _, _, _, _, _, _, _, _, _, _, _ => absurd hn (by omega)
  | n + 1, p, c, nm, fu, k, xs, fs, z, nr, bb, h, Q, X, hn, hz, pl, hr1, es, ef, lx, lf, hf, n1, n2, n3, n4, w => by
    have s1 := pl.lt
    have s2 := lt_of es
    have s3 := lt_of ef
    have hlf : (List.map fD fs).length = fs.length := List.length_map ..
    have hs1 := SB_le d
    have hs2 := SB_70 d
    have h8 := Nat.one_le_pow d 8 (by omega)
    refine u_law_block ?_
    walk_at "go"
    rename_i q h1 eq1 g1 g2 g3 k1 t h2 et2 g4 g5 g6 k2
    have pl2 : Pl h2 p c nr := (pl.mono k1 List.not_mem_nil List.not_mem_nil).mono k2 List.not_mem_nil List.not_mem_nil
    have ef2 : h2[fu]? = some (.lst (fs.map fD)) := by walk_at "get"
    have eq2 : h2[q]? = some (.lst (xs.map .str)) := by walk_at "get"
    have k02 : Keep [p] h h2 := by walk_at "keep"
    have GO : ∀ (m : Nat) (h3 : Hh) , m ≤ 4 → Pl h3 p c nr → h2.length ≤ h3.length → Keep [p] h2 h3 →
       loopS (wG gls (rn n) X (.name 8)) (wB gls (rn n) X c_law_block_20) { nx := fun σ h => wB gls (rn n) X (.cons (.ret (.blt .tuple (.cons (.var 7) .nil))) .nil) (R0 Q) σ h, rt := Q, bk := fun _ _ => False, ct := fun _ _ => False } (range m 0 0) [some (.ref p), some (.str k), some (.ref nm), some (.ref fu), some (.int z), some (.bl bb), some (.ref q), some (.ref t), none, none, none, none, none, none, none] h3 := by
      intro m h3 hm pl3 l3 k3
      refine loop_i (I := fun r σ h' => ∃ (b : List St) (xs' : List Str) (nr' : Nat) (x8 x9 x10 x11 x12 x13 x14 : Option D), σ = [some (.ref p), some (.str k), some (.ref nm), some (.ref fu), some (.int z), some (.bl bb), some (.ref q), some (.ref t), x8, x9, x10, x11, x12, x13, x14] ∧ r.length + b.length = m ∧ St.fits b ∧ St.scs (fun x => x ∈ xs ∨ x ∈ St.bvars b) (· ∈ fs.map (·.1)) b ∧ Rise nr (St.bvars b) nr' ∧ (∀ x ∈ xs', x ∈ xs ∨ x ∈ St.bvars b) ∧ St.bht b ≤ d ∧ grs (St.ds b) ≤ b.length * SB d ∧ Pl h' p c nr' ∧ nr ≤ nr' ∧ nr' ≤ nr + grs (St.ds b) ∧ nr' ≤ nr + b.length * 8 ^ d ∧ xs'.length ≤ xs.length + b.length ∧ h'[q]? = some (.lst (xs'.map .str)) ∧ h'[t]? = some (.lst (St.ds b)) ∧ h2.length ≤ h'.length ∧ Keep [p, q, t] h2 h') ?_ ?_ _ _ _ ?_
      · rintro x r σ h4 K ⟨b, xs', nr', x8, x9, x10, x11, x12, x13, x14, rfl, hb, ff, scc, rr, inx, tt, gg, pl4, r0, r1, v1', lx', eq4, et4, l4, k4⟩ hK
        simp only [List.length_cons] at hb
        have gb : b.length * SB d ≤ 3 * SB d := Nat.mul_le_mul_right _ (by omega)
        have ef4 : h4[fu]? = some (.lst (fs.map fD)) := by walk_at "get"
        have hlx : (List.map D.str xs').length = xs'.length := List.length_map ..
        have hlb := sds_len b
        have s4 := lt_of et4
        have FIN : ∀ (T : St) (xs2 : List Str) (nr2 : Nat) (y8 y9 y10 y11 y12 y13 y14 : Option D) (h5 : Hh), T.fit → T.sc (fun x => x ∈ xs' ∨ x ∈ T.vars) (· ∈ fs.map (·.1)) → Rise nr' T.vars nr2 → (∀ x ∈ xs2, x ∈ xs' ∨ x ∈ T.vars) → T.ht ≤ d → gr T.d ≤ SB d → Pl h5 p c nr2 → nr' ≤ nr2 → nr2 ≤ nr' + gr T.d → h5[q]? = some (.lst (xs2.map .str)) → xs2.length ≤ xs'.length + 1 → h5[t]? = some (.lst (St.ds b ++ [T.d])) → h2.length ≤ h5.length → Keep [p, q, t] h2 h5 → nr2 ≤ nr' + 8 ^ d →
            K [some (.ref p), some (.str k), some (.ref nm), some (.ref fu), some (.int z), some (.bl bb), some (.ref q), some (.ref t), y8, y9, y10, y11, y12, y13, y14] h5 := by
          intro T xs2 nr2 y8 y9 y10 y11 y12 y13 y14 h5 f1 fsc frr finx f2 f3 f4 f5 f6 f7 f8 f9 f10 f11 f12
          have e1 : grs (St.ds (b ++ [T])) = grs (St.ds b) + gr T.d := by rw [sds_app, grs_app]; simp [St.ds, grs]
          have e2 : St.bvars (b ++ [T]) = St.bvars b ++ T.vars := by rw [bvars_app]; simp [St.bvars]
          have inP : ∀ x, (x ∈ xs' ∨ x ∈ T.vars) → (x ∈ xs ∨ x ∈ St.bvars b ++ T.vars) := fun x hx => by
            rcases hx with hx | hx
            · rcases inx x hx with z | z
              · exact .inl z
              · exact .inr (List.mem_append.mpr (.inl z))
            · exact .inr (List.mem_append.mpr (.inr hx))
          refine hK _ _ ⟨b ++ [T], xs2, nr2, y8, y9, y10, y11, y12, y13, y14, rfl, ?_, sfits_app _ _ ff ⟨f1, trivial⟩, ?_, ?_, ?_, sbht_app _ _ _ tt (by simp only [St.bht]; omega), ?_, f4, by omega, ?_, ?_, ?_, f7, ?_, f10, f11⟩
          · simp only [List.length_append, List.length_singleton]; omega
          · rw [e2]
            exact sscs_app _ _ (sscs_mono (fun x hx => hx.elim .inl fun z => .inr (List.mem_append.mpr (.inl z))) (fun _ z => z) _ scc) ⟨ssc_mono inP (fun _ z => z) _ fsc, trivial⟩
          · rw [e2]; exact rr.app frr
          · rw [e2]; exact fun x hx => inP x (finx x hx)
          · rw [e1, List.length_append, List.length_singleton, Nat.succ_mul]; omega
          · rw [e1]; omega
          · rw [List.length_append, List.length_singleton, Nat.succ_mul]; omega
          · simp only [List.length_append, List.length_singleton]; omega
          · rw [f9, sds_app]; rfl
        walk_at "go"
        refine take_ok pl4 (by decide) (by decide) (by omega) fun v h5 v0 v1 pl5 l5 k5 => ?_
        walk_at "go"
        refine expr_ok 2 n p c q fu xs' fs _ _ _ _ _ (by omega) rfl pl5 (by walk_at "get") (by walk_at "get") (by omega) (by omega) hf (by omega) (by omega) n3 n4 fun e h6 f6 sc6 t6 pl6 l6 k6 => ?_
        have ge := ep_gr3 f6 t6
        have eq6 : h6[q]? = some (.lst (xs'.map .str)) := by walk_at "get"
        have et6 : h6[t]? = some (.lst (St.ds b)) := by walk_at "get"
        have ef6 : h6[fu]? = some (.lst (fs.map fD)) := by walk_at "get"
        have k26 : Keep [p, q, t] h2 h6 := by walk_at "keep"
        have OUT : ∀ (y8 y9 y10 y11 y12 y13 y14 : Option D) (h7 : Hh), Keep [t] h6 h7 → h6.length ≤ h7.length → h7[t]? = some (.lst (St.ds b ++ [.tup [.str w_out, e.d]])) → K [some (.ref p), some (.str k), some (.ref nm), some (.ref fu), some (.int z), some (.bl bb), some (.ref q), some (.ref t), y8, y9, y10, y11, y12, y13, y14] h7 := fun y8 y9 y10 y11 y12 y13 y14 h7 k7 l7 et7 =>
          FIN (.out e) xs' nr' _ _ _ _ _ _ _ _ ⟨f6, by omega⟩ (sc_mono (fun _ z => .inl z) (fun _ z => z) _ sc6) (Nat.le_refl _) (fun _ z => .inl z) (by simp only [St.ht]; omega) (by simp only [St.d, gr, grs]; omega) (pl6.mono k7 (by walk_at "mem") (by walk_at "mem")) (by omega) (by omega) (by walk_at "get") (by omega) et7 (by omega) (by walk_at "keep") (by omega)
        rcases (show v = 0 ∨ v = 1 ∨ v = 2 ∨ v = 3 ∨ v = 4 ∨ v = 5 ∨ v = 6 ∨ v = 7 by omega) with rfl | rfl | rfl | rfl | rfl | rfl | rfl | rfl
        all_goals walk_at "go"
        · refine name_ok pl6 (by omega) (by omega) fun y h7 ny pl7 l7 k7 => ?_
          have et7 : h7[t]? = some (.lst (St.ds b)) := by walk_at "get"
          walk_at "go"
          rename_i h8 e8 l8 k8 h9 e9 l9 k9
          exact FIN (.var y e) (xs' ++ [y]) (nr' + 1) _ _ _ _ _ _ _ _ ⟨f6, by omega⟩ ⟨.inr List.mem_cons_self, sc_mono (fun _ z => .inl z) (fun _ z => z) _ sc6⟩ ⟨nr' + 1, by omega, ny, Nat.le_refl _⟩ (fun x hx => by rcases List.mem_append.mp hx with z | z; exact .inl z; exact .inr z) (by simp only [St.ht]; omega) (by simp only [St.d, gr, grs]; omega) ((pl7.mono k8 (by walk_at "mem") (by walk_at "mem")).mono k9 (by walk_at "mem") (by walk_at "mem")) (by omega) (by simp only [St.d, gr, grs]; omega) (by rw [e9]; simp) (by simp) (by walk_at "get") (by omega) (by walk_at "keep") (by omega)
        · walk_at "br"
          · refine take_ok pl6 (by omega) (by omega) (by omega) fun a h7 a0 a1 pl7 l7 k7 => ?_
            obtain ⟨y, my, ey⟩ := getAt_ok (f := D.str) a0 (hlx ▸ a1)
            have et7 : h7[t]? = some (.lst (St.ds b)) := by walk_at "get"
            have eq7 : h7[q]? = some (.lst (xs'.map .str)) := by walk_at "get"
            walk_at "go"
            rename_i h8 e8 l8 k8
            exact FIN (.set y e) xs' nr' _ _ _ _ _ _ _ _ ⟨f6, by omega⟩ ⟨.inl my, sc_mono (fun _ z => .inl z) (fun _ z => z) _ sc6⟩ (Nat.le_refl _) (fun _ z => .inl z) (by simp only [St.ht]; omega) (by simp only [St.d, gr, grs]; omega) (pl7.mono k8 (by walk_at "mem") (by walk_at "mem")) (by omega) (by omega) (by walk_at "get") (by omega) e8 (by omega) (by walk_at "keep") (by omega)
          · exact OUT _ _ _ _ _ _ _ _ (by assumption) (by assumption) (by assumption)
        · walk_at "br"
          · refine take_ok pl6 (by omega) (by omega) (by omega) fun a h7 a0 a1 pl7 l7 k7 => ?_
            obtain ⟨⟨y, m2⟩, my, ey⟩ := getAt_ok (f := fD) a0 (hlf ▸ a1)
            have hm2 : m2 ≤ 3 := hf _ my
            have et7 : h7[t]? = some (.lst (St.ds b)) := by walk_at "get"
            have eq7 : h7[q]? = some (.lst (xs'.map .str)) := by walk_at "get"
            have ef7 : h7[fu]? = some (.lst (fs.map fD)) := by walk_at "get"
            have k27 : Keep [p, q, t] h2 h7 := by walk_at "keep"
            have s7 := lt_of ef7
            unfold fD at ey
            walk_at "go"
            rename_i u h8 e8 g7 g8 g9 k8
            refine comp_i (I := fun r acc h' => ∃ as : List Ep, acc = Ep.ds as ∧ Ep.fits as ∧ Ep.scs (· ∈ xs') (· ∈ fs.map (·.1)) as ∧ Ep.hts as ≤ 2 ∧ r.length + as.length = m2 ∧ Pl h' p c nr' ∧ h8.length ≤ h'.length ∧ Keep [p, u] h8 h') ?_ ?_ _ _ _ e8 ⟨[], rfl, trivial, trivial, by simp [Ep.hts], by rw [range_len]; simp, pl7.mono k8 List.not_mem_nil List.not_mem_nil, Nat.le_refl _, Keep.refl⟩
            · rintro x r acc h9 K2 e9 ⟨as, rfl, fs9, sc9, t9, ll, pl9, l9, k9⟩ hK2
              walk_at "go"
              refine expr_ok 1 n p c q fu xs' fs _ _ _ _ _ (by omega) (by omega) pl9 (by walk_at "get") (by walk_at "get") (by omega) (by omega) hf (by omega) (by omega) n3 n4 fun e1 h10 f1 sc1 t1 pl10 l10 k10 => ?_
              have e10 : h10[u]? = some (.lst (Ep.ds as)) := by walk_at "get"
              have hl := ds_len as
              simp only [List.length_cons] at ll
              refine rdL_i e10 (chk_i (small_lt (by omega)) (put_i e10 fun h11 e11 l11 k11 => hK2 _ _ e11 ⟨as ++ [e1], by rw [ds_app]; rfl, fits_app _ _ fs9 ⟨f1, trivial⟩, scs_app _ _ sc9 ⟨sc1, trivial⟩, hts_app _ _ _ t9 (by simp only [Ep.hts]; omega), by simp only [List.length_append, List.length_singleton]; omega, ?_, by omega, by walk_at "keep"⟩))
              exact pl10.mono k11 (by walk_at "mem") (by walk_at "mem")
            · rintro acc h9 e9 ⟨as, rfl, fs9, sc9, t9, ll, pl9, l9, k9⟩
              have hl := ds_len as
              simp only [List.length_nil] at ll
              have et9 : h9[t]? = some (.lst (St.ds b)) := by walk_at "get"
              have eq9 : h9[q]? = some (.lst (xs'.map .str)) := by walk_at "get"
              walk_at "go"
              rename_i h10 e10 l10 k10
              have fa9 : (Ep.call y as).fit := ⟨by omega, fs9⟩
              have g9 := ep_gr3 fa9 (by simp only [Ep.ht]; omega)
              simp only [Ep.d, gr, grs] at g9
              exact FIN (.call y as) xs' nr' _ _ _ _ _ _ _ _ ⟨fa9, by simp only [Ep.ht]; omega⟩ ⟨List.mem_map.mpr ⟨_, my, rfl⟩, scs_mono (fun _ z => .inl z) (fun _ z => z) _ sc9⟩ (Nat.le_refl _) (fun _ z => .inl z) (by simp only [St.ht]; omega) (by simp only [St.d, gr, grs]; omega) (pl9.mono k10 (by walk_at "mem") (by walk_at "mem")) (by omega) (by omega) (by walk_at "get") (by omega) e10 (by omega) (by walk_at "keep") (by omega)
          · exact OUT _ _ _ _ _ _ _ _ (by assumption) (by assumption) (by assumption)
        · walk_at "br"
          · obtain ⟨d, rfl⟩ : ∃ d', d = d' + 1 := ⟨d - 1, by omega⟩
            have hS : SB (d + 1) = 600 * 9 ^ d + 70 := rfl
            have hP : 9 ^ (d + 1) = 9 ^ d * 9 := Nat.pow_succ ..
            have hP8 : 8 ^ (d + 1) = 8 ^ d * 8 := Nat.pow_succ ..
            refine ih d rfl n p c q fu k xs' fs _ _ _ _ _ _ (by omega) (by omega) pl6 (by omega) eq6 ef6 (by omega) lf hf (by omega) (by omega) n3 n4 fun b1 nr7 h7 f7 sc7 rr7 t7 c7 gr7 pl7 r7 r8 v7 l7 k7 => ?_
            have et7 : h7[t]? = some (.lst (St.ds b)) := by walk_at "get"
            have eq7 : h7[q]? = some (.lst (xs'.map .str)) := by walk_at "get"
            have ef7 : h7[fu]? = some (.lst (fs.map fD)) := by walk_at "get"
            have k27 : Keep [p, q, t] h2 h7 := by walk_at "keep"
            walk_at "go"
            refine ih d rfl n p c q fu k xs' fs _ _ _ _ _ _ (by omega) (by omega) pl7 (by omega) eq7 ef7 (by omega) lf hf (by omega) (by omega) n3 n4 fun b2 nr8 h8 f8 sc8 rr8 t8 c8 gr8 pl8 r9 r10 v8 l8 k8 => ?_
            have et8 : h8[t]? = some (.lst (St.ds b)) := by walk_at "get"
            have eq8 : h8[q]? = some (.lst (xs'.map .str)) := by walk_at "get"
            have k28 : Keep [p, q, t] h2 h8 := by walk_at "keep"
            walk_at "go"
            rename_i h9 e9 l9 k9
            exact FIN (.ifs e b1 b2) xs' nr8 _ _ _ _ _ _ _ _ ⟨⟨f6, by omega⟩, f7, f8⟩ ⟨sc_mono (fun _ z => .inl z) (fun _ z => z) _ sc6, sscs_mono (fun x z => z.elim .inl fun q => .inr (List.mem_append.mpr (.inl q))) (fun _ z => z) _ sc7, sscs_mono (fun x z => z.elim .inl fun q => .inr (List.mem_append.mpr (.inr q))) (fun _ z => z) _ sc8⟩ (rr7.app rr8) (fun _ z => .inl z) (by simp only [St.ht]; omega) (by simp only [St.d, gr, grs]; omega) (pl8.mono k9 (by walk_at "mem") (by walk_at "mem")) (by omega) (by simp only [St.d, gr, grs]; omega) (by walk_at "get") (by omega) e9 (by omega) (by walk_at "keep") (by omega)
          · exact OUT _ _ _ _ _ _ _ _ (by assumption) (by assumption) (by assumption)
        · walk_at "br"
          · obtain ⟨d, rfl⟩ : ∃ d', d = d' + 1 := ⟨d - 1, by omega⟩
            have hS : SB (d + 1) = 600 * 9 ^ d + 70 := rfl
            have hP : 9 ^ (d + 1) = 9 ^ d * 9 := Nat.pow_succ ..
            have hP8 : 8 ^ (d + 1) = 8 ^ d * 8 := Nat.pow_succ ..
            refine ih d rfl n p c q fu k xs' fs _ _ _ _ _ _ (by omega) (by omega) pl6 (by omega) eq6 ef6 (by omega) lf hf (by omega) (by omega) n3 n4 fun b1 nr7 h7 f7 sc7 rr7 t7 c7 gr7 pl7 r7 r8 v7 l7 k7 => ?_
            have et7 : h7[t]? = some (.lst (St.ds b)) := by walk_at "get"
            have eq7 : h7[q]? = some (.lst (xs'.map .str)) := by walk_at "get"
            have k27 : Keep [p, q, t] h2 h7 := by walk_at "keep"
            walk_at "go"
            rename_i h9 e9 l9 k9
            exact FIN (.whl e b1) xs' nr7 _ _ _ _ _ _ _ _ ⟨⟨f6, by omega⟩, f7⟩ ⟨sc_mono (fun _ z => .inl z) (fun _ z => z) _ sc6, sc7⟩ rr7 (fun _ z => .inl z) (by simp only [St.ht]; omega) (by simp only [St.d, gr, grs]; omega) (pl7.mono k9 (by walk_at "mem") (by walk_at "mem")) (by omega) (by simp only [St.d, gr, grs]; omega) (by walk_at "get") (by omega) e9 (by omega) (by walk_at "keep") (by omega)
          · exact OUT _ _ _ _ _ _ _ _ (by assumption) (by assumption) (by assumption)
        · walk_at "br"
          · obtain ⟨d, rfl⟩ : ∃ d', d = d' + 1 := ⟨d - 1, by omega⟩
            have hS : SB (d + 1) = 600 * 9 ^ d + 70 := rfl
            have hP : 9 ^ (d + 1) = 9 ^ d * 9 := Nat.pow_succ ..
            have hP8 : 8 ^ (d + 1) = 8 ^ d * 8 := Nat.pow_succ ..
            refine ih d rfl n p c q fu k xs' fs _ _ _ _ _ _ (by omega) (by omega) pl6 (by omega) eq6 ef6 (by omega) lf hf (by omega) (by omega) n3 n4 fun b1 nr7 h7 f7 sc7 rr7 t7 c7 gr7 pl7 r7 r8 v7 l7 k7 => ?_
            have et7 : h7[t]? = some (.lst (St.ds b)) := by walk_at "get"
            have eq7 : h7[q]? = some (.lst (xs'.map .str)) := by walk_at "get"
            have k27 : Keep [p, q, t] h2 h7 := by walk_at "keep"
            walk_at "go"
            rename_i h9 e9 l9 k9
            exact FIN (.hold b1) xs' nr7 _ _ _ _ _ _ _ _ f7 sc7 rr7 (fun _ z => .inl z) (by simp only [St.ht]; omega) (by simp only [St.d, gr, grs]; omega) (pl7.mono k9 (by walk_at "mem") (by walk_at "mem")) (by omega) (by simp only [St.d, gr, grs]; omega) (by walk_at "get") (by omega) e9 (by omega) (by walk_at "keep") (by omega)
          · exact OUT _ _ _ _ _ _ _ _ (by assumption) (by assumption) (by assumption)
        · refine br_i (fun hc => ?_) (fun hc => ?_)
          · walk_at "go"
            cases bb with
            | true =>
              walk_at "go"
              exact OUT _ _ _ _ _ _ _ _ (by assumption) (by assumption) (by assumption)
            | false =>
              walk_at "go"
              rename_i h9 e9 l9 k9
              exact FIN (.ret e) xs' nr' _ _ _ _ _ _ _ _ ⟨f6, by omega⟩ (sc_mono (fun _ z => .inl z) (fun _ z => z) _ sc6) (Nat.le_refl _) (fun _ z => .inl z) (by simp only [St.ht]; omega) (by simp only [St.d, gr, grs]; omega) (pl6.mono k9 (by walk_at "mem") (by walk_at "mem")) (by omega) (by omega) (by walk_at "get") (by omega) e9 (by omega) (by walk_at "keep") (by omega)
          · walk_at "go"
            exact OUT _ _ _ _ _ _ _ _ (by assumption) (by assumption) (by assumption)
        · exact OUT _ _ _ _ _ _ _ _ (by assumption) (by assumption) (by assumption)
      · rintro σ h4 ⟨b, xs', nr', x8, x9, x10, x11, x12, x13, x14, rfl, hb, ff, scc, rr, inx, tt, gg, pl4, r0, r1, v1', lx', eq4, et4, l4, k4⟩
        simp only [List.length_nil] at hb
        have gb : b.length * SB d ≤ 4 * SB d := Nat.mul_le_mul_right _ (by omega)
        walk_at "go"
        refine w b nr' _ ff scc rr tt (by omega) (by omega) pl4 r0 r1 (by have : b.length * 8 ^ d ≤ 4 * 8 ^ d := Nat.mul_le_mul_right _ (by omega); omega) (by omega) (by walk_at "keep")
      · exact ⟨[], xs, nr, _, _, _, _, _, _, _, rfl, by rw [range_len]; simp, trivial, trivial, Nat.le_refl _, fun _ z => .inl z, by simp [St.bht], by simp [St.ds, grs], pl3, by omega, by omega, by simp, by omega, by walk_at "get", by walk_at "get", l3, by walk_at "keep"⟩
    walk_at "go"
    walk_at "br"
    · refine take_ok pl2 (by decide) (by decide) (by omega) fun v h3 v0 v1 pl3 l3 k3 => ?_
      walk_at "go"
      exact GO v.toNat h3 (by omega) pl3 l3 k3
    · refine take_ok pl2 (by decide) (by decide) (by omega) fun v h3 v0 v1 pl3 l3 k3 => ?_
      walk_at "go"
      exact GO (1 + v).toNat h3 (by omega) pl3 l3 k3
theorem blk_ok : ∀ d, BlkSpec d
  | 0 => blk_of 0 fun d' e => by omega
  | d + 1 => blk_of (d + 1) fun d' e => by
    obtain rfl : d = d' := by omega
    exact blk_ok d

end Lw

set_option Elab.async false
set_option linter.all false
set_option maxRecDepth 100000
set_option maxHeartbeats 1000000
namespace Lw
open PySem PySem.Spec PyProof.Rows L2 Mi
local macro_rules | `(tactic| walk_at "mem") => `(tactic| first | exact fun _ z => absurd z List.not_mem_nil | exact List.not_mem_nil | (intro i hi; simp only [List.mem_cons, List.not_mem_nil, or_false, false_or] at hi ⊢; omega) | (simp only [List.mem_cons, List.not_mem_nil, or_false, false_or, not_or]; omega))
local macro_rules | `(tactic| walk_at "get") => `(tactic| first | assumption | (apply Keep.get; assumption; walk_at "get"; walk_at "mem"))
local macro_rules | `(tactic| walk_at "keep") => `(tactic| first | assumption | exact Keep.refl | (apply Keep.step; assumption; walk_at "keep"; walk_at "mem"))
local macro_rules | `(tactic| walk_at "one") => `(tactic| (conv => whnf) <;> first
  | (apply br_t; rfl)
  | (apply br_f; rfl)
  | (apply rdO_i; walk_at "get")
  | (apply itm_i; first | rfl | assumption | exact getAt_end _ _)
  | (apply new_i; intro p h' e1 l1 l2 l3 k)
  | (apply put_i; walk_at "get"; intro h' e1 l1 k)
  | (apply iLst_i; first | rfl | exact intsOf_map _)
  | (apply chk_i; first | rfl | exact lenOk_le (by simp only [List.length_map, List.length_cons, List.length_append, List.length_take, List.length_nil, List.length_replicate, List.length_dropLast]; omega) | exact small_lt (by simp only [List.length_map, List.length_cons, List.length_append, List.length_take, List.length_nil, List.length_replicate, List.length_dropLast]; omega) | assumption | exact mulOk_r (by decide) | exact mulOk_l (by decide) | exact lenOk_le (by omega) | exact small_lt (by omega) | (simp; omega)))
local macro_rules | `(tactic| walk_at "go") => `(tactic| (repeat walk_at "one"); try (conv => whnf))

/-! ### plain facts of values -/
theorem ep_gr9 {e : Ep} (f : e.fit) (h : e.ht ≤ 9) : gr e.d < 50000 := by
  have := ep_gr e f
  have : 3 ^ e.ht ≤ 3 ^ 9 := Nat.pow_le_pow_right (by omega) h
  omega
mutual
theorem ep_pln : ∀ e : Ep, pln e.d = true
  | .num _ => rfl
  | .nam _ => rfl
  | .inn => rfl
  | .op o a b => by simp [Ep.d, pln, plns, ep_pln a, ep_pln b]
  | .call x as => by simp [Ep.d, pln, plns, ep_plns as]
theorem ep_plns : ∀ as : List Ep, plns (Ep.ds as) = true
  | [] => rfl
  | a :: as => by simp [Ep.ds, plns, ep_pln a, ep_plns as]
end
mutual
theorem st_pln : ∀ s : St, pln s.d = true
  | .var x e => by simp [St.d, pln, plns, ep_pln]
  | .set x e => by simp [St.d, pln, plns, ep_pln]
  | .call x as => by simp [St.d, pln, plns, ep_plns]
  | .hold b => by simp [St.d, pln, plns, st_plns b]
  | .whl e b => by simp [St.d, pln, plns, ep_pln, st_plns b]
  | .ifs e b c => by simp [St.d, pln, plns, ep_pln, st_plns b, st_plns c]
  | .ret e => by simp [St.d, pln, plns, ep_pln]
  | .out e => by simp [St.d, pln, plns, ep_pln]
theorem st_plns : ∀ b : List St, plns (St.ds b) = true
  | [] => rfl
  | s :: b => by simp [St.ds, plns, st_pln s, st_plns b]
end
theorem ds_map : ∀ as : List Ep, Ep.ds as = as.map Ep.d
  | [] => rfl
  | a :: as => by show a.d :: Ep.ds as = _; rw [ds_map as]; rfl
theorem sds_map : ∀ b : List St, St.ds b = b.map St.d
  | [] => rfl
  | a :: as => by show a.d :: St.ds as = _; rw [sds_map as]; rfl
theorem fits_mem : ∀ {as : List Ep} {a : Ep}, Ep.fits as → a ∈ as → a.fit
  | b :: as, a, f, m => by
    rcases List.mem_cons.mp m with rfl | m
    · exact f.1
    · exact fits_mem f.2 m
theorem hts_mem : ∀ {as : List Ep} {a : Ep}, a ∈ as → a.ht ≤ Ep.hts as
  | b :: as, a, m => by
    show a.ht ≤ max b.ht (Ep.hts as)
    rcases List.mem_cons.mp m with rfl | m
    · omega
    · have := hts_mem m; omega
theorem sfits_mem : ∀ {as : List St} {a : St}, St.fits as → a ∈ as → a.fit
  | b :: as, a, f, m => by
    rcases List.mem_cons.mp m with rfl | m
    · exact f.1
    · exact sfits_mem f.2 m
theorem bht_mem : ∀ {as : List St} {a : St}, a ∈ as → a.ht ≤ St.bht as
  | b :: as, a, m => by
    show a.ht ≤ max b.ht (St.bht as)
    rcases List.mem_cons.mp m with rfl | m
    · omega
    · have := bht_mem m; omega
theorem ht_pos : ∀ e : Ep, 1 ≤ e.ht
  | .op _ x y => by simp [Ep.ht]
  | .call _ as => by simp [Ep.ht]
  | .num _ => by simp [Ep.ht]
  | .nam _ => by simp [Ep.ht]
  | .inn => by simp [Ep.ht]
/-! ### names exchanged -/
mutual
def Ep.ren (ν φ : Str → Str) : Ep → Ep
  | .num n => .num n
  | .nam x => .nam (ν x)
  | .inn => .inn
  | .op o a b => .op o (a.ren ν φ) (b.ren ν φ)
  | .call x as => .call (φ x) (Ep.rens ν φ as)
def Ep.rens (ν φ : Str → Str) : List Ep → List Ep
  | [] => []
  | a :: as => a.ren ν φ :: Ep.rens ν φ as
end
mutual
def St.ren (ν φ : Str → Str) : St → St
  | .var x e => .var (ν x) (e.ren ν φ)
  | .set x e => .set (ν x) (e.ren ν φ)
  | .call x as => .call (φ x) (Ep.rens ν φ as)
  | .hold b => .hold (St.rens ν φ b)
  | .whl e b => .whl (e.ren ν φ) (St.rens ν φ b)
  | .ifs e b c => .ifs (e.ren ν φ) (St.rens ν φ b) (St.rens ν φ c)
  | .ret e => .ret (e.ren ν φ)
  | .out e => .out (e.ren ν φ)
def St.rens (ν φ : Str → Str) : List St → List St
  | [] => []
  | s :: b => s.ren ν φ :: St.rens ν φ b
end
section
variable (ν φ : Str → Str)
theorem rens_map : ∀ as : List Ep, Ep.rens ν φ as = as.map (Ep.ren ν φ)
  | [] => rfl
  | a :: as => by show a.ren ν φ :: Ep.rens ν φ as = _; rw [rens_map as]; rfl
theorem srens_map : ∀ as : List St, St.rens ν φ as = as.map (St.ren ν φ)
  | [] => rfl
  | a :: as => by show a.ren ν φ :: St.rens ν φ as = _; rw [srens_map as]; rfl
mutual
theorem ren_fit : ∀ e : Ep, e.fit → (e.ren ν φ).fit
  | .num _, f => f
  | .nam _, _ => trivial
  | .inn, _ => trivial
  | .op _ a b, f => ⟨ren_fit a f.1, ren_fit b f.2⟩
  | .call _ as, f => ⟨by rw [rens_map, List.length_map]; exact f.1, rens_fit as f.2⟩
theorem rens_fit : ∀ as : List Ep, Ep.fits as → Ep.fits (Ep.rens ν φ as)
  | [], _ => trivial
  | a :: as, f => ⟨ren_fit a f.1, rens_fit as f.2⟩
end
mutual
theorem ren_ht : ∀ e : Ep, (e.ren ν φ).ht = e.ht
  | .num _ => rfl
  | .nam _ => rfl
  | .inn => rfl
  | .op _ a b => by simp only [Ep.ren, Ep.ht, ren_ht a, ren_ht b]
  | .call _ as => by simp only [Ep.ren, Ep.ht, rens_ht as]
theorem rens_ht : ∀ as : List Ep, Ep.hts (Ep.rens ν φ as) = Ep.hts as
  | [] => rfl
  | a :: as => by simp only [Ep.rens, Ep.hts, ren_ht a, rens_ht as]
end
mutual
theorem ren_gr : ∀ e : Ep, gr (e.ren ν φ).d = gr e.d
  | .num _ => rfl
  | .nam _ => rfl
  | .inn => rfl
  | .op _ a b => by simp only [Ep.ren, Ep.d, gr, grs, ren_gr a, ren_gr b]
  | .call _ as => by simp only [Ep.ren, Ep.d, gr, grs, rens_gr as]
theorem rens_gr : ∀ as : List Ep, grs (Ep.ds (Ep.rens ν φ as)) = grs (Ep.ds as)
  | [] => rfl
  | a :: as => by simp only [Ep.rens, Ep.ds, grs, ren_gr a, rens_gr as]
end
mutual
theorem sren_fit : ∀ s : St, s.fit → (s.ren ν φ).fit
  | .var x e, f => ⟨ren_fit ν φ e f.1, by rw [ren_ht]; exact f.2⟩
  | .set x e, f => ⟨ren_fit ν φ e f.1, by rw [ren_ht]; exact f.2⟩
  | .call x as, f => ⟨ren_fit ν φ (.call x as) f.1, Nat.le_trans (Nat.le_of_eq (ren_ht ν φ (.call x as))) f.2⟩
  | .hold b, f => srens_fit b f
  | .whl e b, f => ⟨⟨ren_fit ν φ e f.1.1, by rw [ren_ht]; exact f.1.2⟩, srens_fit b f.2⟩
  | .ifs e b c, f => ⟨⟨ren_fit ν φ e f.1.1, by rw [ren_ht]; exact f.1.2⟩, srens_fit b f.2.1, srens_fit c f.2.2⟩
  | .ret e, f => ⟨ren_fit ν φ e f.1, by rw [ren_ht]; exact f.2⟩
  | .out e, f => ⟨ren_fit ν φ e f.1, by rw [ren_ht]; exact f.2⟩
theorem srens_fit : ∀ b : List St, St.fits b → St.fits (St.rens ν φ b)
  | [], _ => trivial
  | s :: b, f => ⟨sren_fit s f.1, srens_fit b f.2⟩
end
mutual
theorem sren_ht : ∀ s : St, (s.ren ν φ).ht = s.ht
  | .var x e => rfl
  | .set x e => rfl
  | .call x as => rfl
  | .hold b => by simp only [St.ren, St.ht, srens_ht b]
  | .whl e b => by simp only [St.ren, St.ht, srens_ht b]
  | .ifs e b c => by simp only [St.ren, St.ht, srens_ht b, srens_ht c]
  | .ret e => rfl
  | .out e => rfl
theorem srens_ht : ∀ b : List St, St.bht (St.rens ν φ b) = St.bht b
  | [] => rfl
  | s :: b => by simp only [St.rens, St.bht, sren_ht s, srens_ht b]
end
mutual
theorem sren_gr : ∀ s : St, gr (s.ren ν φ).d = gr s.d
  | .var x e => by simp only [St.ren, St.d, gr, grs, ren_gr]
  | .set x e => by simp only [St.ren, St.d, gr, grs, ren_gr]
  | .call x as => by simp only [St.ren, St.d, gr, grs, rens_gr]
  | .hold b => by simp only [St.ren, St.d, gr, grs, srens_gr b]
  | .whl e b => by simp only [St.ren, St.d, gr, grs, ren_gr, srens_gr b]
  | .ifs e b c => by simp only [St.ren, St.d, gr, grs, ren_gr, srens_gr b, srens_gr c]
  | .ret e => by simp only [St.ren, St.d, gr, grs, ren_gr]
  | .out e => by simp only [St.ren, St.d, gr, grs, ren_gr]
theorem srens_gr : ∀ b : List St, grs (St.ds (St.rens ν φ b)) = grs (St.ds b)
  | [] => rfl
  | s :: b => by simp only [St.rens, St.ds, grs, sren_gr s, srens_gr b]
end
mutual
theorem vars_ren : ∀ s : St, (s.ren ν φ).vars = s.vars.map ν
  | .var x e => rfl
  | .set x e => rfl
  | .call x as => rfl
  | .hold b => bvars_ren b
  | .whl e b => bvars_ren b
  | .ifs e b c => by simp only [St.ren, St.vars, bvars_ren b, bvars_ren c, List.map_append]
  | .ret e => rfl
  | .out e => rfl
theorem bvars_ren : ∀ b : List St, St.bvars (St.rens ν φ b) = (St.bvars b).map ν
  | [] => rfl
  | s :: b => by simp only [St.rens, St.bvars, vars_ren s, bvars_ren b, List.map_append]
end
end
section
variable {P F : Str → Prop} {ν φ ν' φ' ν2 φ2 : Str → Str}
mutual
theorem ren_comp (hp : ∀ x, P x → ν' (ν x) = ν2 x) (hf : ∀ x, F x → φ' (φ x) = φ2 x) : ∀ e : Ep, e.sc P F → (e.ren ν φ).ren ν' φ' = e.ren ν2 φ2
  | .num _, _ => rfl
  | .nam x, h => by simp only [Ep.ren, hp x h]
  | .inn, _ => rfl
  | .op o a b, h => by simp only [Ep.ren, ren_comp hp hf a h.1, ren_comp hp hf b h.2]
  | .call x as, h => by simp only [Ep.ren, hf x h.1, rens_comp hp hf as h.2]
theorem rens_comp (hp : ∀ x, P x → ν' (ν x) = ν2 x) (hf : ∀ x, F x → φ' (φ x) = φ2 x) : ∀ as : List Ep, Ep.scs P F as → Ep.rens ν' φ' (Ep.rens ν φ as) = Ep.rens ν2 φ2 as
  | [], _ => rfl
  | a :: as, h => by simp only [Ep.rens, ren_comp hp hf a h.1, rens_comp hp hf as h.2]
end
mutual
theorem sren_comp (hp : ∀ x, P x → ν' (ν x) = ν2 x) (hf : ∀ x, F x → φ' (φ x) = φ2 x) : ∀ s : St, s.sc P F → (s.ren ν φ).ren ν' φ' = s.ren ν2 φ2
  | .var x e, h => by simp only [St.ren, hp x h.1, ren_comp hp hf e h.2]
  | .set x e, h => by simp only [St.ren, hp x h.1, ren_comp hp hf e h.2]
  | .call x as, h => by simp only [St.ren, hf x h.1, rens_comp hp hf as h.2]
  | .hold b, h => by simp only [St.ren, srens_comp hp hf b h]
  | .whl e b, h => by simp only [St.ren, ren_comp hp hf e h.1, srens_comp hp hf b h.2]
  | .ifs e b c, h => by simp only [St.ren, ren_comp hp hf e h.1, srens_comp hp hf b h.2.1, srens_comp hp hf c h.2.2]
  | .ret e, h => by simp only [St.ren, ren_comp hp hf e h]
  | .out e, h => by simp only [St.ren, ren_comp hp hf e h]
theorem srens_comp (hp : ∀ x, P x → ν' (ν x) = ν2 x) (hf : ∀ x, F x → φ' (φ x) = φ2 x) : ∀ b : List St, St.scs P F b → St.rens ν' φ' (St.rens ν φ b) = St.rens ν2 φ2 b
  | [], _ => rfl
  | s :: b, h => by simp only [St.rens, sren_comp hp hf s h.1, srens_comp hp hf b h.2]
end
end
/-! ### tables of names -/
abbrev Tab := Str → Option Str
def upF (f : Tab) (x v : Str) : Tab := fun y => if y = x then some v else f y
/-- names told by a beginning and their number from k -/
def ins (l : Str) : Nat → List Str → Tab → Tab
  | _, [], f => f
  | k, x :: xs, f => ins l (k + 1) xs (upF f x (l ++ st k))
def gd (f : Tab) : Str → Str := fun y => (f y).getD y
def nul : Tab := fun _ => none
theorem ins_not : ∀ {xs : List Str} {l : Str} {k : Nat} {f : Tab} {x : Str}, x ∉ xs → ins l k xs f x = f x
  | [], _, _, _, _, _ => rfl
  | y :: ys, l, k, f, x, h => by
    unfold ins
    rw [ins_not fun m => h (List.mem_cons_of_mem _ m)]
    unfold upF
    rw [if_neg fun e => h (by rw [e]; exact List.mem_cons_self)]
theorem ins_at : ∀ {xs : List Str} {l : Str} {k : Nat} {f : Tab} {x : Str} {i : Nat}, xs.Nodup → xs[i]? = some x → ins l k xs f x = some (l ++ st (k + i : Nat))
  | [], _, _, _, _, _, _, e => by simp at e
  | y :: ys, l, k, f, x, 0, n, e => by
    simp at e
    subst e
    unfold ins
    rw [ins_not (List.nodup_cons.mp n).1]
    unfold upF
    rw [if_pos rfl]
    rfl
  | y :: ys, l, k, f, x, i + 1, n, e => by
    unfold ins
    rw [ins_at (i := i) (List.nodup_cons.mp n).2 (by simpa using e)]
    have : k + 1 + i = k + (i + 1) := by omega
    rw [this]
theorem ins_some : ∀ {xs : List Str} {l : Str} {k : Nat} {f : Tab} {x : Str}, x ∈ xs → ∃ v, ins l k xs f x = some v
  | y :: ys, l, k, f, x, m => by
    unfold ins
    by_cases h : x ∈ ys
    · exact ins_some h
    · rw [ins_not h]
      rcases List.mem_cons.mp m with rfl | m
      · exact ⟨_, if_pos rfl⟩
      · exact absurd m h
theorem ins_or : ∀ {xs : List Str} {l : Str} {k : Nat} {f g : Tab} (x : Str), ins l k xs (fun y => (f y).or (g y)) x = (ins l k xs f x).or (g x)
  | [], _, _, _, _, _ => rfl
  | y :: ys, l, k, f, g, x => by
    unfold ins
    have e : upF (fun y => (f y).or (g y)) y (l ++ st k) = fun z => (upF f y (l ++ st k) z).or (g z) := by
      funext z
      unfold upF
      split <;> rfl
    rw [e, ins_or]
/-- the images of a row of names -/
def img (l : Str) (q n : Nat) : List Str := (List.range n).map fun i => l ++ st (q + i : Nat)
theorem img_at {l : Str} {q n i : Nat} (h : i < n) : (img l q n)[i]? = some (l ++ st (q + i : Nat)) := by
  unfold img
  rw [List.getElem?_map, List.getElem?_range h]
  rfl
theorem img_len {l : Str} {q n : Nat} : (img l q n).length = n := by simp [img]
theorem img_mem {l : Str} {q n : Nat} {x : Str} (h : x ∈ img l q n) : ∃ i, i < n ∧ x = l ++ st (q + i : Nat) := by
  obtain ⟨i, hi, rfl⟩ := List.mem_map.mp h
  exact ⟨i, List.mem_range.mp hi, rfl⟩
theorem img_nodup {l : Str} {q n : Nat} : (img l q n).Nodup := by
  unfold img
  refine List.nodup_iff_pairwise_ne.mpr ?_
  rw [List.pairwise_map]
  refine List.Pairwise.imp ?_ (List.nodup_iff_pairwise_ne.mp List.nodup_range)
  intro a b h e
  have := st_inj (str_app_inj e)
  omega
theorem img_map {l : Str} {k : Nat} {xs : List Str} {f : Tab} (n : xs.Nodup) : xs.map (gd (ins l k xs f)) = img l k xs.length := by
  refine List.ext_getElem? fun i => ?_
  rw [List.getElem?_map]
  by_cases h : i < xs.length
  · rw [img_at h, List.getElem?_eq_getElem h]
    show some (gd _ xs[i]) = _
    unfold gd
    rw [ins_at n (List.getElem?_eq_getElem h)]
    rfl
  · rw [List.getElem?_eq_none (by omega), List.getElem?_eq_none (by rw [img_len]; omega)]
    rfl
/-- three rows of names, one behind the other -/
def T3 (c p l : Str) (q : Nat) (ns ps vs : List Str) : Tab := ins l q vs (ins p 0 ps (ins c 0 ns nul))
theorem T3_v {c p l : Str} {q : Nat} {ns ps vs : List Str} {i : Nat} {x : Str} (n : vs.Nodup) (e : vs[i]? = some x) : gd (T3 c p l q ns ps vs) x = l ++ st (q + i : Nat) := by
  unfold gd T3
  rw [ins_at n e]
  rfl
theorem T3_p {c p l : Str} {q : Nat} {ns ps vs : List Str} {i : Nat} {x : Str} (hv : x ∉ vs) (n : ps.Nodup) (e : ps[i]? = some x) : gd (T3 c p l q ns ps vs) x = p ++ st (i : Nat) := by
  unfold gd T3
  rw [ins_not hv, ins_at n e, Nat.zero_add]
  rfl
theorem T3_c {c p l : Str} {q : Nat} {ns ps vs : List Str} {i : Nat} {x : Str} (hv : x ∉ vs) (hp : x ∉ ps) (n : ns.Nodup) (e : ns[i]? = some x) : gd (T3 c p l q ns ps vs) x = c ++ st (i : Nat) := by
  unfold gd T3
  rw [ins_not hv, ins_not hp, ins_at n e, Nat.zero_add]
  rfl
/-- told anew, and tidy: as tidy at once -/
theorem T3_tidy {c p l g r x0 : Str} {q : Nat} {ns ps vs : List Str} (nd : (ns ++ ps ++ vs).Nodup) (im : (img c 0 ns.length ++ img p 0 ps.length ++ img l q vs.length).Nodup) (x : Str) (hx : x ∈ ns ++ ps ++ vs) :
    gd (T3 g r x0 0 (img c 0 ns.length) (img p 0 ps.length) (img l q vs.length)) (gd (T3 c p l q ns ps vs) x) = gd (T3 g r x0 0 ns ps vs) x := by
  obtain ⟨nd1, nv, dv⟩ := List.nodup_append.mp nd
  obtain ⟨nn, np, dp⟩ := List.nodup_append.mp nd1
  obtain ⟨im1, iv, jv⟩ := List.nodup_append.mp im
  obtain ⟨inn, ip, jp⟩ := List.nodup_append.mp im1
  rcases List.mem_append.mp hx with hx | hx
  · have hv : x ∉ vs := fun m => dv x hx x m rfl
    rcases List.mem_append.mp hx with hx | hx
    · have hp : x ∉ ps := fun m => dp x hx x m rfl
      obtain ⟨i, ei⟩ := List.mem_iff_getElem?.mp hx
      have hi := (List.getElem?_eq_some_iff.mp ei).1
      rw [T3_c hv hp nn ei, T3_c hv hp nn ei]
      have e2 := img_at (l := c) (q := 0) hi
      rw [Nat.zero_add] at e2
      have m2 := List.mem_iff_getElem?.mpr ⟨i, e2⟩
      exact T3_c (fun m => jv _ (List.mem_append.mpr (.inl m2)) _ m rfl) (fun m => jp _ m2 _ m rfl) inn e2
    · obtain ⟨i, ei⟩ := List.mem_iff_getElem?.mp hx
      have hi := (List.getElem?_eq_some_iff.mp ei).1
      rw [T3_p hv np ei, T3_p hv np ei]
      have e2 := img_at (l := p) (q := 0) hi
      rw [Nat.zero_add] at e2
      have m2 := List.mem_iff_getElem?.mpr ⟨i, e2⟩
      exact T3_p (fun m => jv _ (List.mem_append.mpr (.inr m2)) _ m rfl) ip e2
  · obtain ⟨i, ei⟩ := List.mem_iff_getElem?.mp hx
    have hi := (List.getElem?_eq_some_iff.mp ei).1
    rw [T3_v nv ei, T3_v nv ei]
    have e2 := img_at (l := l) (q := q) hi
    exact T3_v iv e2

end Lw

set_option Elab.async false
set_option linter.all false
set_option maxRecDepth 100000
set_option maxHeartbeats 1000000
namespace Lw
open PySem PySem.Spec PyProof.Rows L2 Mi
local macro_rules | `(tactic| walk_at "mem") => `(tactic| first | exact fun _ z => absurd z List.not_mem_nil | exact List.not_mem_nil | (intro i hi; simp only [List.mem_cons, List.not_mem_nil, or_false, false_or] at hi ⊢; omega) | (simp only [List.mem_cons, List.not_mem_nil, or_false, false_or, not_or]; omega))
local macro_rules | `(tactic| walk_at "get") => `(tactic| first | assumption | (apply Keep.get; assumption; walk_at "get"; walk_at "mem"))
local macro_rules | `(tactic| walk_at "keep") => `(tactic| first | assumption | exact Keep.refl | (apply Keep.step; assumption; walk_at "keep"; walk_at "mem"))
local macro_rules | `(tactic| walk_at "one") => `(tactic| (conv => whnf) <;> first
  | (apply br_t; rfl)
  | (apply br_f; rfl)
  | (apply rdO_i; walk_at "get")
  | (apply itm_i; first | rfl | assumption | exact getAt_end _ _)
  | (apply gtD_i; assumption)
  | (apply new_i; intro p h' e1 l1 l2 l3 k)
  | (apply put_i; walk_at "get"; intro h' e1 l1 k)
  | (apply iLst_i; first | rfl | exact intsOf_map _)
  | (apply chk_i; first | rfl | exact lenOk_le (by simp only [List.length_map, List.length_cons, List.length_append, List.length_take, List.length_nil, List.length_replicate, List.length_dropLast]; omega) | exact small_lt (by simp only [List.length_map, List.length_cons, List.length_append, List.length_take, List.length_nil, List.length_replicate, List.length_dropLast]; omega) | assumption | exact mulOk_r (by decide) | exact mulOk_l (by decide) | exact lenOk_le (by omega) | exact small_lt (by omega) | (simp; omega)))
local macro_rules | `(tactic| walk_at "go") => `(tactic| (repeat walk_at "one"); try (conv => whnf))
local macro_rules | `(tactic| walk_at "br") => `(tactic| (refine br_i (fun hc => ?_) (fun hc => ?_) <;> simp only [Bool.not_eq_true', Bool.not_eq_false', beq_iff_eq, beq_eq_false_iff_ne, ne_eq, decide_eq_true_eq, decide_eq_false_iff_not, bne_iff_ne, bne_eq_false_iff_eq] at hc) <;> first | (exfalso; omega) | walk_at "go")

/-! ### trees -/
def bD (b : List St) : D := .tup (St.ds b)
structure Tr where
  cells : List (Str × Int)
  funs : List (Str × List Str × List St)
  ons : List (Int × List St)
  main : List St
def cD (c : Str × Int) : D := .tup [.str c.1, .int c.2]
def fuD (f : Str × List Str × List St) : D := .tup [.str f.1, .tup (f.2.1.map .str), bD f.2.2]
def oD (o : Int × List St) : D := .tup [.int o.1, bD o.2]
def Tr.d (t : Tr) : D := .tup [.tup (t.cells.map cD), .tup (t.funs.map fuD), .tup (t.ons.map oD), bD t.main]
def bOk (b : List St) : Prop := St.fits b ∧ St.bht b ≤ 6 ∧ grs (St.ds b) ≤ 400000
theorem bOk_i {b : List St} (f : St.fits b) (t : St.bht b ≤ 6) (g : grs (St.ds b) ≤ 400000) : bOk b := ⟨f, t, g⟩
structure Tr.ok (t : Tr) : Prop where
  c : t.cells.length ≤ 3
  f : t.funs.length ≤ 4
  o : t.ons.length ≤ 4
  fb : ∀ f ∈ t.funs, (f.2.1.length ≤ 3 ∧ f.2.1.Nodup) ∧ bOk f.2.2
  ob : ∀ o ∈ t.ons, bOk o.2
  m : bOk t.main
/-- names are made once, and all that is named is there -/
structure Tr.good (t : Tr) : Prop where
  cn : (t.cells.map (·.1)).Nodup
  fn : (t.funs.map (·.1)).Nodup
  fg : ∀ f ∈ t.funs, (t.cells.map (·.1) ++ f.2.1 ++ St.bvars f.2.2).Nodup ∧ St.scs (· ∈ t.cells.map (·.1) ++ f.2.1 ++ St.bvars f.2.2) (· ∈ t.funs.map (·.1)) f.2.2
  og : ∀ o ∈ t.ons, (t.cells.map (·.1) ++ St.bvars o.2).Nodup ∧ St.scs (· ∈ t.cells.map (·.1) ++ St.bvars o.2) (· ∈ t.funs.map (·.1)) o.2
  mg : (t.cells.map (·.1) ++ St.bvars t.main).Nodup ∧ St.scs (· ∈ t.cells.map (·.1) ++ St.bvars t.main) (· ∈ t.funs.map (·.1)) t.main
  wd : ∀ x, (x ∈ t.cells.map (·.1) ∨ x ∈ t.funs.map (·.1) ∨ x ∈ St.bvars t.main) → ∃ k, Nm x k
/-- all the names that funs bring -/
def nmsF (fl : List (Str × List Str × List St)) : List Str := (fl.map fun f => f.2.1 ++ [f.1] ++ St.bvars f.2.2).flatten
theorem Rise.len : ∀ {xs : List Str} {lo hi : Nat}, Rise lo xs hi → lo + xs.length ≤ hi
  | [], _, _, h => h
  | x :: xs, lo, hi, ⟨k, h1, _, h3⟩ => by
    have := h3.len
    simp only [List.length_cons]
    omega
def PF (lo hi : Nat) (fl : List (Str × List Str × List St)) : Prop := (nmsF fl).Nodup ∧ (nmsF fl).length ≤ 2000 ∧ ∀ x ∈ nmsF fl, ∃ k, lo < k ∧ k ≤ hi ∧ Nm x k
theorem PF.of {lo hi : Nat} {fl : List (Str × List Str × List St)} (r : Rise lo (nmsF fl) hi) (h : hi ≤ lo + 2000) : PF lo hi fl := ⟨r.nodup, by have := r.len; omega, fun x m => r.mem m⟩
theorem nmsF_perm {a b : List (Str × List Str × List St)} (p : a.Perm b) : (nmsF a).Perm (nmsF b) := (p.map _).flatten
theorem PF.reverse {lo hi : Nat} {fl : List (Str × List Str × List St)} (f : PF lo hi fl) : PF lo hi fl.reverse :=
  have p := nmsF_perm (List.reverse_perm fl)
  ⟨p.nodup_iff.mpr f.1, by rw [p.length_eq]; exact f.2.1, fun x m => f.2.2 x (p.mem_iff.mp m)⟩
theorem nmsF_mem {fl : List (Str × List Str × List St)} {f : Str × List Str × List St} {x : Str} (m : f ∈ fl) (h : x ∈ f.2.1 ++ [f.1] ++ St.bvars f.2.2) : x ∈ nmsF fl := List.mem_flatten.mpr ⟨_, List.mem_map_of_mem m, h⟩
theorem nmsF_len : ∀ {fl : List (Str × List Str × List St)} {f : Str × List Str × List St}, f ∈ fl → (f.2.1 ++ St.bvars f.2.2).length ≤ (nmsF fl).length
  | [], _, m => absurd m List.not_mem_nil
  | e :: fl, f, m => by
    have h : (nmsF (e :: fl)).length = (e.2.1 ++ [e.1] ++ St.bvars e.2.2).length + (nmsF fl).length := by simp [nmsF]; omega
    rw [h]
    rcases List.mem_cons.mp m with rfl | m
    · simp only [List.length_append, List.length_singleton]; omega
    · have := nmsF_len m; omega
theorem nmsF_apart : ∀ {fl : List (Str × List Str × List St)} {f g : Str × List Str × List St}, (nmsF fl).Nodup → f ∈ fl → g ∈ fl → f.1 ∉ g.2.1 ++ St.bvars g.2.2
  | [], _, _, _, m, _ => absurd m List.not_mem_nil
  | e :: fl, f, g, nd, mf, mg => by
    have nd' : ((e.2.1 ++ [e.1] ++ St.bvars e.2.2) ++ nmsF fl).Nodup := nd
    obtain ⟨n1, n2, n3⟩ := List.nodup_append.mp nd'
    intro h
    have hg : f.1 ∈ g.2.1 ++ [g.1] ++ St.bvars g.2.2 := by
      rcases List.mem_append.mp h with h | h <;> simp [h]
    have hf : f.1 ∈ f.2.1 ++ [f.1] ++ St.bvars f.2.2 := by simp
    rcases List.mem_cons.mp mf with rfl | uf <;> rcases List.mem_cons.mp mg with rfl | ug
    · obtain ⟨m1, m2, m3⟩ := List.nodup_append.mp n1
      obtain ⟨m4, m5, m6⟩ := List.nodup_append.mp m1
      rcases List.mem_append.mp h with h | h
      · exact m6 _ h _ (List.mem_singleton_self _) rfl
      · exact m3 _ (by simp) _ h rfl
    · exact n3 _ hf _ (nmsF_mem ug hg) rfl
    · exact n3 _ hg _ (nmsF_mem uf hf) rfl
    · exact nmsF_apart n2 uf ug h
/-- whose names they are, and that funs' names are no part's -/
structure TN (hi : Nat) (t : Tr) : Prop where
  c : ∀ x ∈ t.cells.map (·.1), ∃ k, k ≤ hi ∧ Nm x k
  f : ∀ f ∈ t.funs, ∀ x ∈ f.2.1 ++ [f.1] ++ St.bvars f.2.2, ∃ k, k ≤ hi ∧ Nm x k
  o : ∀ o ∈ t.ons, ∀ x ∈ St.bvars o.2, ∃ k, k ≤ hi ∧ Nm x k
  m : ∀ x ∈ St.bvars t.main, ∃ k, k ≤ hi ∧ Nm x k
  lf : ∀ f ∈ t.funs, (f.2.1 ++ St.bvars f.2.2).length ≤ 3000
  lo : ∀ o ∈ t.ons, (St.bvars o.2).length ≤ 3000
  lm : (St.bvars t.main).length ≤ 3000
  xc : ∀ f ∈ t.funs, f.1 ∉ t.cells.map (·.1)
  xf : ∀ f ∈ t.funs, ∀ g ∈ t.funs, f.1 ∉ g.2.1 ++ St.bvars g.2.2
  xo : ∀ f ∈ t.funs, ∀ o ∈ t.ons, f.1 ∉ St.bvars o.2
  xm : ∀ f ∈ t.funs, f.1 ∉ St.bvars t.main
theorem TN_i {r1 nr nr2 nr3 : Nat} {cs : List (Str × Int)} {fl : List (Str × List Str × List St)} {os : List (Int × List St)} {b : List St} (cg : Rise 0 (cs.map (·.1)) r1) (pf : PF r1 nr fl)
    (ok : ∀ o ∈ os, ∃ c d, nr ≤ c ∧ Rise c (St.bvars o.2) d ∧ d ≤ nr2) (rr : Rise nr2 (St.bvars b) nr3) (h : nr ≤ nr2) (r0 : r1 ≤ nr) (h8 : nr2 ≤ nr + 2000) (h9 : nr3 ≤ nr2 + 3000) : TN nr3 ⟨cs, fl, os, b⟩ := by
  have h3 := rr.le
  have fk : ∀ f ∈ fl, ∃ k, r1 < k ∧ k ≤ nr ∧ Nm f.1 k := fun f m => pf.2.2 _ (nmsF_mem m (by simp))
  refine ⟨fun x m => ?_, fun f m x hx => ?_, fun o m x hx => ?_, fun x m => ?_, fun f m => Nat.le_trans (nmsF_len m) (by have := pf.2.1; show (nmsF fl).length ≤ 3000; omega), fun o m => ?_, by have := rr.len; show (St.bvars b).length ≤ 3000; omega, fun f m hx => ?_, fun f m g mg => nmsF_apart pf.1 m mg, fun f m o mo hx => ?_, fun f m hx => ?_⟩
  · obtain ⟨k, _, e2, e3⟩ := cg.mem m
    exact ⟨k, by omega, e3⟩
  · obtain ⟨k, _, e2, e3⟩ := pf.2.2 x (nmsF_mem m hx)
    exact ⟨k, by omega, e3⟩
  · obtain ⟨c, d, e1, e2, e3⟩ := ok o m
    obtain ⟨k, _, e4, e5⟩ := e2.mem hx
    exact ⟨k, by omega, e5⟩
  · obtain ⟨k, _, e2, e3⟩ := rr.mem m
    exact ⟨k, e2, e3⟩
  · obtain ⟨c, d, e1, e2, e3⟩ := ok o m
    have := e2.len
    omega
  · obtain ⟨k, e1, e2, e3⟩ := fk f m
    obtain ⟨j, e4, e5, e6⟩ := cg.mem hx
    have := e3.inj e6
    omega
  · obtain ⟨k, e1, e2, e3⟩ := fk f m
    obtain ⟨c, d, e7, e8, e9⟩ := ok o mo
    obtain ⟨j, e4, e5, e6⟩ := e8.mem hx
    have := e3.inj e6
    omega
  · obtain ⟨k, e1, e2, e3⟩ := fk f m
    obtain ⟨j, e4, e5, e6⟩ := rr.mem hx
    have := e3.inj e6
    omega
def FG (r1 : Nat) (nms fns : List Str) (f : Str × List Str × List St) : Prop :=
  (∃ a b c d, r1 ≤ a ∧ Rise a f.2.1 b ∧ b ≤ c ∧ Rise c (St.bvars f.2.2) d) ∧ St.scs (fun x => x ∈ nms ++ f.2.1 ∨ x ∈ St.bvars f.2.2) (· ∈ fns) f.2.2
theorem FG.mono {r1 : Nat} {nms fns fns' : List Str} {f : Str × List Str × List St} (h : FG r1 nms fns f) (i : ∀ x ∈ fns, x ∈ fns') : FG r1 nms fns' f := ⟨h.1, sscs_mono (fun _ z => z) i _ h.2⟩
theorem cut_all (xs : List D) : Mi.cutD xs none none = xs := by simp [Mi.cutD, HT.sIx]
structure TE (h : Hh) (p c q r t u r1 : Nat) (cs : List (Str × Int)) (nms : List Str) (fl : List (Str × List Str × List St)) (hs : List (Str × Nat)) : Prop where
  eq : h[q]? = some (.lst (cs.map cD))
  er : h[r]? = some (.lst (nms.map .str))
  et : h[t]? = some (.lst (fl.map fuD))
  eu : h[u]? = some (.lst (hs.map fD))
  ne : (r ≠ p ∧ r ≠ c) ∧ (u ≠ p ∧ u ≠ c) ∧ q ≠ p ∧ t ≠ p
  b : cs.length ≤ 3 ∧ nms.length ≤ 3 ∧ fl.length ≤ 4 ∧ hs.length ≤ 4
  nn : nms = cs.map fun z => z.1
  cg : Rise 0 nms r1
  fn : (fl.map (·.1)).Nodup
  hfn : ∀ x, x ∈ hs.map (·.1) → x ∈ fl.map (·.1)
  fnm : ∀ x, x ∈ fl.map (·.1) → ∃ k, Nm x k
  hf : ∀ f ∈ hs, f.2 ≤ 3
  ff : ∀ f ∈ fl, (f.2.1.length ≤ 3 ∧ bOk f.2.2) ∧ FG r1 nms (fl.map (·.1)) f
theorem TE.mono {h h' : Hh} {p c q r t u r1 : Nat} {cs : List (Str × Int)} {nms : List Str} {fl : List (Str × List Str × List St)} {hs : List (Str × Nat)} (v : TE h p c q r t u r1 cs nms fl hs) {S : List Nat} (k : Keep S h h') (n : ∀ i ∈ S, i = p ∨ h.length ≤ i) : TE h' p c q r t u r1 cs nms fl hs := by
  obtain ⟨eq, er, et, eu, ⟨⟨n1, n2⟩, ⟨n3, n4⟩, n5, n6⟩, b, nn, cg, fn, hfn, fnm, hf, ff⟩ := v
  have a1 := lt_of eq
  have a2 := lt_of er
  have a3 := lt_of et
  have a4 := lt_of eu
  exact ⟨k.get eq fun m => by rcases n _ m with z | z <;> omega, k.get er fun m => by rcases n _ m with z | z <;> omega, k.get et fun m => by rcases n _ m with z | z <;> omega, k.get eu fun m => by rcases n _ m with z | z <;> omega, ⟨⟨n1, n2⟩, ⟨n3, n4⟩, n5, n6⟩, b, nn, cg, fn, hfn, fnm, hf, ff⟩
theorem TE.lt {h : Hh} {p c q r t u r1 : Nat} {cs : List (Str × Int)} {nms : List Str} {fl : List (Str × List Str × List St)} {hs : List (Str × Nat)} (v : TE h p c q r t u r1 cs nms fl hs) : q < h.length ∧ r < h.length ∧ t < h.length ∧ u < h.length := ⟨lt_of v.eq, lt_of v.er, lt_of v.et, lt_of v.eu⟩
theorem tree_1 {n p c q r t u r1 lv : Nat} {cs : List (Str × Int)} {nms : List Str} {fl : List (Str × List Str × List St)} {hs : List (Str × Nat)} {ls : List Int} {nr : Nat} {h : Hh} {Q : Kd} {X : Ex} {x6 x7 x8 x10 x11 x12 x13 : Option D}
    (hn : 9 ≤ n) (v : TE h p c q r t u r1 cs nms fl hs) (el : h[lv]? = some (.lst (ls.map .int))) (hl : ls.length ≤ 4) (hls : (∀ l ∈ ls, ((0 : Int) ≤ l ∧ l ≤ 4)) ∧ ls.Nodup) (nl : lv ≠ p) (pl : Pl h p c nr) (fbn : PF r1 nr fl) (r0 : r1 ≤ nr) (r1' : nr < 900000000)
    (w : ∀ (tr : Tr) (nr' : Nat) (h' : Hh), tr.ok ∧ tr.good ∧ (grs (St.ds tr.main) ≤ 300000 ∧ (∀ o ∈ tr.ons, ((0 : Int) ≤ o.1 ∧ o.1 ≤ 4)) ∧ (tr.ons.map (·.1)).Nodup ∧ TN nr' tr) → Pl h' p c nr' → nr ≤ nr' → nr' ≤ nr + 3072 → Keep [p] h h' → Q tr.d h') :
    wB gls (rn n) X c_law_tree_1 (R0 Q) [some (.ref p), some (.int 3), some (.ref q), some (.ref r), some (.ref t), some (.ref u), x6, x7, x8, some (.ref lv), x10, x11, x12, x13] h := by
  have s1 := pl.lt
  have s2 := v.lt
  have s3 := lt_of el
  obtain ⟨⟨n1, n2⟩, ⟨n3, n4⟩, n5, n6⟩ := v.ne
  obtain ⟨b1, b2, b3, b4⟩ := v.b
  walk_at "go"
  rename_i y h1 e1 g1 g2 g3 k1
  have v1 := v.mono k1 fun i m => absurd m List.not_mem_nil
  have pl1 := pl.mono k1 List.not_mem_nil List.not_mem_nil
  refine compL_i (ls.map .int) (I := fun z acc h' => ∃ z1 z2 os, ∃ nr' : Nat, ls = z1 ++ z2 ∧ z = z2.map D.int ∧ acc = os.map oD ∧ os.map (·.1) = z1 ∧ (∀ o ∈ os, bOk o.2 ∧ (∃ c d, nr ≤ c ∧ Rise c (St.bvars o.2) d ∧ d ≤ nr') ∧ St.scs (fun x => x ∈ nms ∨ x ∈ St.bvars o.2) (· ∈ hs.map (·.1)) o.2 ∧ ((0 : Int) ≤ o.1 ∧ o.1 ≤ 4)) ∧ Pl h' p c nr' ∧ nr ≤ nr' ∧ nr' ≤ nr + 256 * os.length ∧ TE h' p c q r t u r1 cs nms fl hs ∧ h1.length ≤ h'.length ∧ Keep [p, y] h1 h') ?_ ?_ ?_ (ls.map .int) _ _ _ _ (by simp) (fuel_lt (by rw [List.length_map]; omega)) e1 ⟨[], ls, [], nr, rfl, rfl, rfl, rfl, fun _ m => absurd m List.not_mem_nil, pl1, by omega, by simp, v1, Nat.le_refl _, Keep.refl⟩
  · rintro z a h2 ⟨z1, z2, os, nr', ez, er, ea, lo, ok, pl2, r2, r3, v2, l2, k2⟩
    exact k2.get (k1.get el List.not_mem_nil) (by walk_at "mem")
  · rintro x z acc h2 K e2 ⟨z1, z2, os, nr', ez, er, rfl, le, ok, pl2, r2, r3, v2, l2, k2⟩ hK
    have lo : os.length = z1.length := by rw [← le, List.length_map]
    cases z2 with
    | nil => cases er
    | cons zz z2 =>
      simp only [List.map_cons, List.cons.injEq] at er
      obtain ⟨rfl, rfl⟩ := er
      have hzl := congrArg List.length ez
      simp only [List.length_append, List.length_cons] at hzl
      walk_at "go"
      refine blk_ok 2 n p c r u _ nms hs _ nr' _ _ _ _ (by omega) rfl pl2 (by omega) v2.er v2.eu (by omega) (by omega) v2.hf n1 n2 n3 n4 fun b nr3 h3 f3 sc3 rr3 t3 c3 g3' pl3 r4 r5 v5 l3 k3 => ?_
      have e3 : h3[y]? = some (.lst (os.map oD)) := k3.get e2 (by walk_at "mem")
      walk_at "go"
      rename_i h4 e4 l4 k4
      have v3 := v2.mono k3 (by intro i m; simp at m; omega)
      have k14 : Keep [p, y] h1 h4 := by walk_at "keep"
      exact hK _ _ e4 ⟨z1 ++ [zz], z2, os ++ [(zz, b)], nr3, by rw [ez]; simp, rfl, by rw [List.map_append]; rfl, by rw [List.map_append, le]; rfl, (by
        intro o m
        rcases List.mem_append.mp m with m | m
        · obtain ⟨q1, ⟨c, d, q2, q3, q4⟩, q5⟩ := ok o m
          exact ⟨q1, ⟨c, d, q2, q3, by omega⟩, q5⟩
        · obtain rfl := List.mem_singleton.mp m
          exact ⟨bOk_i (b := b) f3 (by omega) (by omega), ⟨nr', nr3, by omega, rr3, Nat.le_refl _⟩, sc3, hls.1 _ (by rw [ez]; simp)⟩), pl3.mono k4 (by walk_at "mem") (by walk_at "mem"), by omega, by simp only [List.length_append, List.length_singleton]; omega, v.mono (show Keep [p, y] h h4 by walk_at "keep") (by intro i m; simp at m; omega), by omega, k14⟩
  · rintro acc h2 e2 ⟨z1, z2, os, nr', ez, er, rfl, le, ok, pl2, r2, r3, v2, l2, k2⟩
    have lo : os.length = z1.length := by rw [← le, List.length_map]
    have : z2 = [] := List.map_eq_nil_iff.mp er.symm
    subst this
    rw [List.append_nil] at ez
    subst ez
    have eq2 := v2.eq
    have et2 := v2.et
    walk_at "go"
    refine blk_ok 3 n p c r u _ nms hs _ nr' _ _ _ _ (by omega) rfl pl2 (by omega) v2.er v2.eu (by omega) (by omega) v2.hf n1 n2 n3 n4 fun b nr3 h3 f3 sc3 rr3 t3 c3 g3' pl3 r4 r5 v5 l3 k3 => ?_
    walk_at "go"
    have nn := v.nn
    subst nn
    have cg := v.cg
    have sub : ∀ x, x ∈ hs.map (·.1) → x ∈ fl.map (·.1) := v.hfn
    have key : ∀ (bl : List St) (c0 d0 : Nat), r1 ≤ c0 → Rise c0 (St.bvars bl) d0 → St.scs (fun x => x ∈ cs.map (fun z => z.1) ∨ x ∈ St.bvars bl) (fun x => x ∈ hs.map (fun z => z.1)) bl → (cs.map (·.1) ++ St.bvars bl).Nodup ∧ St.scs (· ∈ cs.map (·.1) ++ St.bvars bl) (· ∈ fl.map (·.1)) bl := fun bl c0 d0 h1 h2 h3 => by
      exact ⟨((cg.mono (Nat.le_refl _) h1).app h2).nodup, sscs_mono (fun x z => List.mem_append.mpr z) sub _ h3⟩
    refine w ⟨cs, fl, os, b⟩ nr3 h3 ⟨⟨b1, b3, by show os.length ≤ 4; omega, fun f m => ⟨⟨(v.ff f m).1.1, ?_⟩, (v.ff f m).1.2⟩, fun o m => (ok o m).1, bOk_i (b := b) f3 (by omega) (by omega)⟩, ⟨cg.nodup, v.fn, fun f m => ?_, fun o m => ?_, key b nr' nr3 (by omega) rr3 sc3, fun x hx => ?_⟩, ⟨by show grs (St.ds b) ≤ 300000; omega, fun o m => (ok o m).2.2.2, (by first | (rw [le]; exact hls.2) | (rw [← le] at hls; exact hls.2)), TN_i cg fbn (fun o m => (ok o m).2.1) rr3 r2 r0 (by omega) (by omega)⟩⟩ pl3 (by omega) (by omega) (by walk_at "keep")
    · obtain ⟨⟨a, b, _, _, _, hr, _⟩, _⟩ := (v.ff f m).2
      exact hr.nodup
    · obtain ⟨⟨a, b2, c2, d2, g1, g2, g3, g4⟩, g5⟩ := (v.ff f m).2
      refine ⟨?_, sscs_mono (fun x z => List.mem_append.mpr z) (fun _ z => z) _ g5⟩
      exact (((cg.mono (Nat.le_refl _) g1).app g2).mono (Nat.le_refl _) g3 |>.app g4).nodup
    · obtain ⟨_, ⟨c2, d2, g1, g2, _⟩, g3, _⟩ := ok o m
      exact key o.2 c2 d2 (by omega) g2 g3
    · rcases hx with hx | hx | hx
      · obtain ⟨k, _, _, z⟩ := cg.mem hx
        exact ⟨k, z⟩
      · exact v.fnm x hx
      · obtain ⟨k, _, _, z⟩ := rr3.mem hx
        exact ⟨k, z⟩
theorem tree_4 {n p c q r t u r1 : Nat} {cs : List (Str × Int)} {nms : List Str} {fl : List (Str × List Str × List St)} {hs : List (Str × Nat)} {nr : Nat} {h : Hh} {Q : Kd} {X : Ex} {x6 x7 x8 x9 x10 x11 x12 x13 : Option D}
    (hn : 9 ≤ n) (v : TE h p c q r t u r1 cs nms fl hs) (pl : Pl h p c nr) (fbn : PF r1 nr fl) (r0 : r1 ≤ nr) (r1' : nr < 900000000)
    (w : ∀ (tr : Tr) (nr' : Nat) (h' : Hh), tr.ok ∧ tr.good ∧ (grs (St.ds tr.main) ≤ 300000 ∧ (∀ o ∈ tr.ons, ((0 : Int) ≤ o.1 ∧ o.1 ≤ 4)) ∧ (tr.ons.map (·.1)).Nodup ∧ TN nr' tr) → Pl h' p c nr' → nr ≤ nr' → nr' ≤ nr + 3072 → Keep [p] h h' → Q tr.d h') :
    wB gls (rn n) X c_law_tree_4 (R0 Q) [some (.ref p), some (.int 3), some (.ref q), some (.ref r), some (.ref t), some (.ref u), x6, x7, x8, x9, x10, x11, x12, x13] h := by
  have s1 := pl.lt
  have s2 := v.lt
  walk_at "one"
  walk_at "one"
  rename_i lv h1 e1 g1 g2 g3 k1
  have pl1 := pl.mono k1 List.not_mem_nil List.not_mem_nil
  refine comp_i (I := fun z acc h' => ∃ (rs ls : List Int), z = rs.map D.int ∧ acc = ls.map D.int ∧ rs.length + ls.length ≤ 4 ∧ (∀ l ∈ rs ++ ls, ((0 : Int) ≤ l ∧ l ≤ 4)) ∧ (ls ++ rs).Nodup ∧ Pl h' p c nr ∧ h1.length ≤ h'.length ∧ Keep [p, lv] h1 h') ?_ ?_ _ _ _ e1 ⟨[1, 2, 3, 4], [], rfl, rfl, by simp, by decide, by decide, pl1, Nat.le_refl _, Keep.refl⟩
  · rintro x z acc h2 K e2 ⟨rs, ls, er, rfl, lr, pos, nd, pl2, l2, k2⟩ hK
    cases rs with
    | nil => cases er
    | cons zz rs =>
      simp only [List.map_cons, List.cons.injEq] at er
      obtain ⟨rfl, rfl⟩ := er
      simp only [List.length_cons] at lr
      walk_at "go"
      refine take_ok pl2 (by decide) (by decide) (by omega) fun a h3 a0 a1 pl3 l3 k3 => ?_
      have e3 := k3.get e2 (by walk_at "mem")
      walk_at "go"
      refine br_i (fun hc => ?_) (fun hc => ?_)
      · walk_at "go"
        rename_i h4 e4 l4 k4
        exact hK _ _ e4 ⟨rs, ls ++ [zz], rfl, by simp, by simp only [List.length_append, List.length_singleton]; omega, (fun l m => pos l (by simp only [List.mem_append, List.mem_cons, List.not_mem_nil, or_false, List.cons_append] at m ⊢; rcases m with m | m | m <;> simp [m])), (by rw [List.append_assoc]; exact nd), pl3.mono k4 (by walk_at "mem") (by walk_at "mem"), by omega, by walk_at "keep"⟩
      · exact hK _ _ e3 ⟨rs, ls, rfl, rfl, by omega, fun l m => pos l (List.mem_cons_of_mem _ m), nd.sublist (List.Sublist.append (List.Sublist.refl _) (List.sublist_cons_self _ _)), pl3, by omega, by walk_at "keep"⟩
  · rintro acc h2 e2 ⟨rs, ls, er, rfl, lr, pos, nd, pl2, l2, k2⟩
    have v2 := v.mono (show Keep [p, lv] h h2 by walk_at "keep") (by intro i m; simp at m; omega)
    walk_at "go"
    refine take_ok pl2 (by decide) (by decide) (by omega) fun a h3 a0 a1 pl3 l3 k3 => ?_
    have e3 := k3.get e2 (by walk_at "mem")
    have v3 := v2.mono k3 (by intro i m; simp at m; omega)
    have k03 : Keep [p] h h3 := by walk_at "keep"
    conv => whnf
    refine br_i (fun hc => ?_) (fun hc => ?_)
    · walk_at "one"
      walk_at "one"
      rename_i lw h4 e4 g4 g5 g6 k4
      rw [← List.map_reverse] at e4
      exact tree_1 hn (v3.mono k4 fun i m => absurd m List.not_mem_nil) e4 (by rw [List.length_reverse]; omega) ⟨fun l m => pos l (List.mem_append.mpr (.inr (List.mem_reverse.mp m))), (List.reverse_perm ls).nodup_iff.mpr (List.nodup_append.mp nd).1⟩ (by omega) (pl3.mono k4 List.not_mem_nil List.not_mem_nil) fbn r0 r1' fun tr nr' h' a1 a2 a3 a4 a5 => w tr nr' h' a1 a2 a3 a4 (by walk_at "keep")
    · exact tree_1 hn v3 e3 (by omega) ⟨fun l m => pos l (List.mem_append.mpr (.inr m)), (List.nodup_append.mp nd).1⟩ (by omega) pl3 fbn r0 r1' fun tr nr' h' a1 a2 a3 a4 a5 => w tr nr' h' a1 a2 a3 a4 (by walk_at "keep")
theorem tree_6 {n p c q r t u r1 : Nat} {cs : List (Str × Int)} {nms : List Str} {fl : List (Str × List Str × List St)} {hs : List (Str × Nat)} {nr : Nat} {h : Hh} {Q : Kd} {X : Ex} {x6 x7 x8 x9 x10 x11 x12 x13 : Option D}
    (hn : 9 ≤ n) (v : TE h p c q r t u r1 cs nms fl hs) (pl : Pl h p c nr) (fbn : PF r1 nr fl) (r0 : r1 ≤ nr) (r1' : nr < 900000000)
    (w : ∀ (tr : Tr) (nr' : Nat) (h' : Hh), tr.ok ∧ tr.good ∧ (grs (St.ds tr.main) ≤ 300000 ∧ (∀ o ∈ tr.ons, ((0 : Int) ≤ o.1 ∧ o.1 ≤ 4)) ∧ (tr.ons.map (·.1)).Nodup ∧ TN nr' tr) → Pl h' p c nr' → nr ≤ nr' → nr' ≤ nr + 3072 → Keep [p] h h' → Q tr.d h') :
    wB gls (rn n) X c_law_tree_6 (R0 Q) [some (.ref p), some (.int 3), some (.ref q), some (.ref r), some (.ref t), some (.ref u), x6, x7, x8, x9, x10, x11, x12, x13] h := by
  have s1 := pl.lt
  have s2 := v.lt
  walk_at "go"
  refine take_ok pl (by decide) (by decide) (by omega) fun a h3 a0 a1 pl3 l3 k3 => ?_
  have v3 := v.mono k3 (by intro i m; simp at m; omega)
  have e3 := v3.et
  conv => whnf
  refine br_i (fun hc => ?_) (fun hc => ?_)
  · walk_at "one"
    walk_at "one"
    rename_i t2 h4 e4 g4 g5 g6 k4
    rw [← List.map_reverse] at e4
    have v4 := v3.mono k4 fun i m => absurd m List.not_mem_nil
    exact tree_4 hn (v := ⟨v4.eq, v4.er, e4, v4.eu, ⟨v.ne.1, v.ne.2.1, v.ne.2.2.1, by omega⟩, ⟨v.b.1, v.b.2.1, by rw [List.length_reverse]; exact v.b.2.2.1, v.b.2.2.2⟩, v.nn, v.cg, by rw [List.map_reverse]; exact (List.reverse_perm _).nodup_iff.mpr v.fn, fun x m => by rw [List.map_reverse]; exact List.mem_reverse.mpr (v.hfn x m), fun x m => v.fnm x (by rw [List.map_reverse] at m; exact List.mem_reverse.mp m), v.hf, fun f m => ⟨(v.ff f (List.mem_reverse.mp m)).1, (v.ff f (List.mem_reverse.mp m)).2.mono fun x z => by rw [List.map_reverse]; exact List.mem_reverse.mpr z⟩⟩) (pl3.mono k4 List.not_mem_nil List.not_mem_nil) fbn.reverse r0 r1' fun tr nr' h' a1 a2 a3 a4 a5 => w tr nr' h' a1 a2 a3 a4 (by walk_at "keep")
  · exact tree_4 hn v3 pl3 fbn r0 r1' fun tr nr' h' a1 a2 a3 a4 a5 => w tr nr' h' a1 a2 a3 a4 (by walk_at "keep")

end Lw

set_option Elab.async false
set_option linter.all false
set_option maxRecDepth 100000
set_option maxHeartbeats 1000000
namespace Lw
open PySem PySem.Spec PyProof.Rows L2 Mi
local macro_rules | `(tactic| walk_at "mem") => `(tactic| first | exact fun _ z => absurd z List.not_mem_nil | exact List.not_mem_nil | (intro i hi; simp only [List.mem_cons, List.not_mem_nil, or_false, false_or] at hi ⊢; omega) | (simp only [List.mem_cons, List.not_mem_nil, or_false, false_or, not_or]; omega))
local macro_rules | `(tactic| walk_at "get") => `(tactic| first | assumption | (apply Keep.get; assumption; walk_at "get"; walk_at "mem"))
local macro_rules | `(tactic| walk_at "keep") => `(tactic| first | assumption | exact Keep.refl | (apply Keep.step; assumption; walk_at "keep"; walk_at "mem"))
local macro_rules | `(tactic| walk_at "one") => `(tactic| (conv => whnf) <;> first
  | (apply br_t; rfl)
  | (apply br_f; rfl)
  | (apply rdO_i; walk_at "get")
  | (apply itm_i; first | rfl | assumption | exact getAt_end _ _)
  | (apply gtD_i; assumption)
  | (apply new_i; intro p h' e1 l1 l2 l3 k)
  | (apply put_i; walk_at "get"; intro h' e1 l1 k)
  | (apply iLst_i; first | rfl | exact intsOf_map _)
  | (apply chk_i; first | rfl | exact lenOk_le (by simp only [List.length_map, List.length_cons, List.length_append, List.length_take, List.length_nil, List.length_replicate, List.length_dropLast]; omega) | exact small_lt (by simp only [List.length_map, List.length_cons, List.length_append, List.length_take, List.length_nil, List.length_replicate, List.length_dropLast]; omega) | assumption | exact mulOk_r (by decide) | exact mulOk_l (by decide) | exact lenOk_le (by omega) | exact small_lt (by omega) | (simp; omega)))
local macro_rules | `(tactic| walk_at "go") => `(tactic| (repeat walk_at "one"); try (conv => whnf))
local macro_rules | `(tactic| walk_at "br") => `(tactic| (refine br_i (fun hc => ?_) (fun hc => ?_) <;> simp only [Bool.not_eq_true', Bool.not_eq_false', beq_iff_eq, beq_eq_false_iff_ne, ne_eq, decide_eq_true_eq, decide_eq_false_iff_not, bne_iff_ne, bne_eq_false_iff_eq] at hc) <;> first | (exfalso; omega) | walk_at "go")

theorem tree_ok {n p c : Nat} {nr : Nat} {h : Hh} {Q : Kd} {X : Ex} (hn : 10 ≤ n) (pl : Pl h p c nr) (r1 : nr < 800000000)
    (w : ∀ (tr : Tr) (nr' : Nat) (h' : Hh), tr.ok ∧ tr.good ∧ (grs (St.ds tr.main) ≤ 300000 ∧ (∀ o ∈ tr.ons, ((0 : Int) ≤ o.1 ∧ o.1 ≤ 4)) ∧ (tr.ons.map (·.1)).Nodup ∧ TN nr' tr) → Pl h' p c nr' → nr ≤ nr' → nr' ≤ nr + 5000 → Keep [p] h h' → Q tr.d h') :
    rn n i_law_tree [.ref p, .int 3] h Q X := by
  cases n with
  | zero => omega
  | succ n =>
    have s1 := pl.lt
    refine u_law_tree ?_
    walk_at "go"
    refine take_ok pl (by decide) (by decide) (by omega) fun v h1 v0 v1 pl1 l1 k1 => ?_
    walk_at "go"
    rename_i q h2 e2 g1 g2 g3 k2
    refine comp_i (I := fun r acc h' => ∃ (cs : List (Str × Int)) (nr' : Nat), acc = cs.map cD ∧ Rise nr (cs.map (·.1)) nr' ∧ r.length + cs.length = v.toNat ∧ Pl h' p c nr' ∧ nr ≤ nr' ∧ nr' ≤ nr + cs.length ∧ h2.length ≤ h'.length ∧ Keep [p, q] h2 h') ?_ ?_ _ _ _ e2 ⟨[], nr, rfl, Nat.le_refl _, by rw [range_len]; simp, pl1.mono k2 List.not_mem_nil List.not_mem_nil, by omega, by simp, Nat.le_refl _, Keep.refl⟩
    · rintro x r acc h3 K e3 ⟨cs, nr', rfl, rise, lc, pl3, r2, r3, l3, k3⟩ hK
      simp only [List.length_cons] at lc
      walk_at "go"
      refine name_ok pl3 (by omega) (by omega) fun y h4 ny pl4 l4 k4 => ?_
      walk_at "go"
      refine take_ok pl4 (by decide) (by decide) (by omega) fun z h5 z0 z1 pl5 l5 k5 => ?_
      have e5 : h5[q]? = some (.lst (cs.map cD)) := by walk_at "get"
      walk_at "go"
      rename_i h6 e6 l6 k6
      exact hK _ _ e6 ⟨cs ++ [(y, z)], _, by rw [List.map_append]; rfl, by rw [List.map_append]; exact rise.app ⟨_, by omega, ny, Nat.le_refl _⟩, by simp only [List.length_append, List.length_singleton]; omega, pl5.mono k6 (by walk_at "mem") (by walk_at "mem"), by omega, by simp only [List.length_append, List.length_singleton]; omega, by omega, by walk_at "keep"⟩
    rintro acc h3 e3 ⟨cs, nr3, rfl, rise, lc, pl3, r2, r3, l3, k3⟩
    have hq3 : q < h3.length := lt_of e3
    simp only [List.length_nil] at lc
    walk_at "go"
    rename_i r h4 e4 g4 g5 g6 k4
    refine mapL_i cD (fun c => .str c.1) cs (by walk_at "get") e4 (by omega) (by omega) (fun x hx h5 K N k5 hK => ?_) fun h5 e5 k5 => ?_
    · walk_at "go"
      exact hK _ Keep.refl
    have l5 := k5.len
    have en5 : h5[r]? = some (.lst ((cs.map (·.1)).map D.str)) := by rw [e5, List.map_map]; rfl
    have pl5 : Pl h5 p c nr3 := (pl3.mono k4 List.not_mem_nil List.not_mem_nil).mono k5 (by walk_at "mem") (by walk_at "mem")
    have ec5 : h5[q]? = some (.lst (cs.map cD)) := by walk_at "get"
    have k05 : Keep [p] h h5 := by walk_at "keep"
    walk_at "go"
    rename_i t h6 e6 g7 g8 g9 k6 u h7 e7 g10 g11 g12 k7
    have pl7 : Pl h7 p c nr3 := (pl5.mono k6 List.not_mem_nil List.not_mem_nil).mono k7 List.not_mem_nil List.not_mem_nil
    have TE7 : TE h7 p c q r t u nr3 cs (cs.map (·.1)) [] [] := ⟨by walk_at "get", by walk_at "get", by show h7[t]? = some (.lst []); walk_at "get", e7, ⟨⟨by omega, by omega⟩, ⟨by omega, by omega⟩, by omega, by omega⟩, ⟨by omega, by rw [List.length_map]; omega, by simp, by simp⟩, rfl, rise.mono (Nat.zero_le _) (Nat.le_refl _), List.nodup_nil, fun _ m => m, fun _ m => absurd m List.not_mem_nil, fun _ m => absurd m List.not_mem_nil, fun _ m => absurd m List.not_mem_nil⟩
    have k07 : Keep [p] h h7 := by walk_at "keep"
    refine take_ok pl7 (by decide) (by decide) (by omega) fun vf h8 vf0 vf1 pl8 l8 k8 => ?_
    have s8 := TE7.lt
    walk_at "one"
    refine loop_i (I := fun rr σ h' => ∃ (fl : List (Str × List Str × List St)) (hs : List (Str × Nat)) (nr' : Nat) (x6 x7 x8 : Option D), σ = [some (.ref p), some (.int 3), some (.ref q), some (.ref r), some (.ref t), some (.ref u), x6, x7, x8, none, none, none, none, none] ∧ rr.length + fl.length = vf.toNat ∧ hs.length = fl.length ∧ hs.map (·.1) = fl.map (·.1) ∧ Rise nr3 (fl.map (·.1)) nr' ∧ Rise nr3 (nmsF fl) nr' ∧ TE h' p c q r t u nr3 cs (cs.map (·.1)) fl hs ∧ Pl h' p c nr' ∧ nr ≤ nr' ∧ nr' ≤ nr + 10 + 260 * fl.length ∧ h8.length ≤ h'.length ∧ Keep [p, t, u] h8 h') ?_ ?_ _ _ _ ⟨[], [], nr3, _, _, _, rfl, by rw [range_len]; simp, rfl, rfl, Nat.le_refl _, Nat.le_refl _, TE7.mono k8 (by intro i m; simp at m; omega), pl8, by omega, by simp; omega, Nat.le_refl _, Keep.refl⟩
    · rintro x rr σ h9 K ⟨fl, hs, nr9, x6, x7, x8, rfl, lf, lh, hfe, frise, nrise, v9, pl9, r4, r5, l9, k9⟩ hK
      simp only [List.length_cons] at lf
      have s9 := v9.lt
      walk_at "go"
      refine take_ok pl9 (by decide) (by decide) (by omega) fun vo h10 vo0 vo1 pl10 l10 k10 => ?_
      walk_at "go"
      rename_i y h11 e11 g13 g14 g15 k11
      refine comp_i (I := fun z acc h' => ∃ (os : List Str) (nr' : Nat), acc = os.map D.str ∧ Rise nr9 os nr' ∧ z.length + os.length = vo.toNat ∧ Pl h' p c nr' ∧ nr9 ≤ nr' ∧ nr' ≤ nr9 + os.length ∧ h11.length ≤ h'.length ∧ Keep [p, y] h11 h') ?_ ?_ _ _ _ e11 ⟨[], nr9, rfl, Nat.le_refl _, by rw [range_len]; simp, pl10.mono k11 List.not_mem_nil List.not_mem_nil, by omega, by simp, Nat.le_refl _, Keep.refl⟩
      · rintro x z acc h12 K2 e12 ⟨os, nr', rfl, orise, lo, pl12, r6, r7, l12, k12⟩ hK2
        simp only [List.length_cons] at lo
        walk_at "go"
        refine name_ok pl12 (by omega) (by omega) fun a h13 na pl13 l13 k13 => ?_
        have e13 := k13.get e12 (by walk_at "mem")
        walk_at "go"
        rename_i h14 e14 l14 k14
        exact hK2 _ _ e14 ⟨os ++ [a], _, by rw [List.map_append]; rfl, orise.app ⟨_, by omega, na, Nat.le_refl _⟩, by simp only [List.length_append, List.length_singleton]; omega, pl13.mono k14 (by walk_at "mem") (by walk_at "mem"), by omega, by simp only [List.length_append, List.length_singleton]; omega, by omega, by walk_at "keep"⟩
      rintro acc h12 e12 ⟨os, nr12, rfl, orise, lo, pl12, r6, r7, l12, k12⟩
      simp only [List.length_nil] at lo
      walk_at "go"
      refine name_ok pl12 (by omega) (by omega) fun a h13 na pl13 l13 k13 => ?_
      have e13 := k13.get e12 (by walk_at "mem")
      have k913 : Keep [p] h9 h13 := by walk_at "keep"
      have v13 := v9.mono k913 (by intro i m; simp at m; omega)
      have f1 := v13.er
      have f2 := v13.eu
      have f3 := v13.et
      have b1 := v13.b
      have hcs : ((cs.map (·.1)).map D.str).length = cs.length := by simp
      walk_at "go"
      rename_i ra h14 e14 g16 g17 g18 k14 rb h15 e15 g19 g20 g21 k15
      rw [cut_all] at e15
      rw [← List.map_append] at e14
      have k15' := k15
      refine blk_ok 2 n p c ra rb _ _ hs _ _ _ _ _ _ (by omega) rfl ((pl13.mono k14 List.not_mem_nil List.not_mem_nil).mono k15 List.not_mem_nil List.not_mem_nil) (by omega) (by walk_at "get") e15 (by simp only [List.length_append, List.length_map]; omega) (by omega) v9.hf (by omega) (by omega) (by omega) (by omega) fun b nr16 h16 ff scb rrb tt cc gg pl16 r8 r9 vv l16 k16 => ?_
      have k1316 : Keep [p] h13 h16 := by walk_at "keep"
      have v16 := v13.mono k1316 (by intro i m; simp at m; omega)
      have f4 := v16.et
      have f5 := v16.eu
      have e16 : h16[y]? = some (.lst (os.map D.str)) := by walk_at "get"
      have k916 : Keep [p] h9 h16 := by walk_at "keep"
      have hfl : (fl.map fuD).length = fl.length := List.length_map ..
      have hhs : (hs.map fD).length = hs.length := List.length_map ..
      walk_at "go"
      rename_i h17 e17 l17 k17 h18 e18 l18 k18
      rw [List.length_map] at e18
      have ne := v16.ne
      have ntu : t ≠ u := by omega
      refine hK _ _ ⟨fl ++ [(a, os, b)], hs ++ [(a, os.length)], nr16, _, _, _, rfl, by simp only [List.length_append, List.length_singleton]; omega, by simp only [List.length_append, List.length_singleton]; omega, by rw [List.map_append, List.map_append, hfe]; rfl, by rw [List.map_append]; exact frise.app ⟨nr12 + 1, by omega, na, by have := rrb.le; exact this⟩, (by
        have e : nmsF (fl ++ [(a, os, b)]) = nmsF fl ++ (os ++ [a] ++ St.bvars b) := by simp [nmsF]
        rw [e]
        exact nrise.app ((orise.app (ys := [a]) ⟨nr12 + 1, by omega, na, Nat.le_refl _⟩).app rrb)), ⟨?_, ?_, ?_, ?_, ne, ?_, rfl, v16.cg, ?_, ?_, ?_, ?_, ?_⟩, (pl16.mono k17 (by walk_at "mem") (by walk_at "mem")).mono k18 (by walk_at "mem") (by walk_at "mem"), by omega, by simp only [List.length_append, List.length_singleton]; omega, by omega, by walk_at "keep"⟩
      · have := v16.eq; walk_at "get"
      · have := v16.er; walk_at "get"
      · have e20 : h18[t]? = _ := k18.get e17 (by walk_at "mem")
        rw [e20, List.map_append]
        rfl
      · rw [e18, List.map_append]
        rfl
      · simp only [List.length_append, List.length_singleton]; omega
      · rw [List.map_append]
        exact (frise.app (ys := [a]) ⟨nr12 + 1, by omega, na, Nat.le_refl _⟩).nodup
      · intro x m
        rw [List.map_append] at m ⊢
        rcases List.mem_append.mp m with m | m
        · exact List.mem_append.mpr (.inl (v16.hfn x m))
        · exact List.mem_append.mpr (.inr m)
      · intro x m
        rw [List.map_append] at m
        obtain ⟨k, _, _, z⟩ := (frise.app (ys := [a]) ⟨nr12 + 1, by omega, na, Nat.le_refl _⟩).mem m
        exact ⟨k, z⟩
      · intro f m
        rcases List.mem_append.mp m with m | m
        · exact v16.hf f m
        · obtain rfl := List.mem_singleton.mp m
          show os.length ≤ 3
          omega
      · intro f m
        rcases List.mem_append.mp m with m | m
        · exact ⟨(v16.ff f m).1, (v16.ff f m).2.mono fun x z => by rw [List.map_append]; exact List.mem_append.mpr (.inl z)⟩
        · obtain rfl := List.mem_singleton.mp m
          refine ⟨⟨by show os.length ≤ 3; omega, bOk_i (b := b) ff (by omega) (by omega)⟩, ⟨nr9, nr12, nr12 + 1, nr16, by have := frise.le; omega, orise, by omega, rrb⟩, ?_⟩
          exact sscs_mono (fun _ z => z) (fun x z => by rw [List.map_append, ← hfe]; exact List.mem_append.mpr (.inl z)) _ scb
    · rintro σ h9 ⟨fl, hs, nr9, x6, x7, x8, rfl, lf, lh, hfe, frise, nrise, v9, pl9, r4, r5, l9, k9⟩
      simp only [List.length_nil] at lf
      have k09 : Keep [p] h h9 := by walk_at "keep"
      exact tree_6 (by omega) v9 pl9 (PF.of nrise (by omega)) (by have := frise.le; omega) (by omega) fun tr nr' h' a1 a2 a3 a4 a5 => w tr nr' h' a1 a2 (by omega) (by omega) (by walk_at "keep")

end Lw

set_option Elab.async false
set_option linter.all false
set_option maxRecDepth 100000
set_option maxHeartbeats 1000000
namespace Lw
open PySem PySem.Spec PyProof.Rows L2 Mi
local macro_rules | `(tactic| walk_at "mem") => `(tactic| first | exact fun _ z => absurd z List.not_mem_nil | exact List.not_mem_nil | (intro i hi; simp only [List.mem_cons, List.not_mem_nil, or_false, false_or] at hi ⊢; omega) | (simp only [List.mem_cons, List.not_mem_nil, or_false, false_or, not_or]; omega))
local macro_rules | `(tactic| walk_at "get") => `(tactic| first | assumption | (apply Keep.get; assumption; walk_at "get"; walk_at "mem"))
local macro_rules | `(tactic| walk_at "keep") => `(tactic| first | assumption | exact Keep.refl | (apply Keep.step; assumption; walk_at "keep"; walk_at "mem"))
local macro_rules | `(tactic| walk_at "one") => `(tactic| (conv => whnf) <;> first
  | (apply br_t; rfl)
  | (apply br_f; rfl)
  | (apply rdO_i; walk_at "get")
  | (apply itm_i; first | rfl | assumption | exact getAt_end _ _)
  | (apply gtD_i; assumption)
  | (apply new_i; intro p h' e1 l1 l2 l3 k)
  | (apply put_i; walk_at "get"; intro h' e1 l1 k)
  | (apply iLst_i; first | rfl | exact intsOf_map _)
  | (apply chk_i; first | rfl | exact lenOk_le (by simp only [List.length_map, List.length_cons, List.length_append, List.length_take, List.length_nil, List.length_replicate, List.length_dropLast]; omega) | exact small_lt (by simp only [List.length_map, List.length_cons, List.length_append, List.length_take, List.length_nil, List.length_replicate, List.length_dropLast]; omega) | assumption | exact mulOk_r (by decide) | exact mulOk_l (by decide) | exact lenOk_le (by omega) | exact small_lt (by omega) | (simp; omega)))
local macro_rules | `(tactic| walk_at "go") => `(tactic| (repeat walk_at "one"); try (conv => whnf))
local macro_rules | `(tactic| walk_at "br") => `(tactic| (refine br_i (fun hc => ?_) (fun hc => ?_) <;> simp only [Bool.not_eq_true', Bool.not_eq_false', beq_iff_eq, beq_eq_false_iff_ne, ne_eq, decide_eq_true_eq, decide_eq_false_iff_not, bne_iff_ne, bne_eq_false_iff_eq] at hc) <;> first | (exfalso; omega) | walk_at "go")
theorem bOk_ren {b : List St} (o : bOk b) (ν φ : Str → Str) : bOk (St.rens ν φ b) := ⟨srens_fit ν φ b o.1, by rw [srens_ht]; exact o.2.1, by rw [srens_gr]; exact o.2.2⟩
theorem plns_map {α : Type} {f : α → D} : ∀ {xs : List α}, (∀ x ∈ xs, pln (f x) = true) → plns (xs.map f) = true
  | [], _ => rfl
  | x :: xs, h => by
    show (pln (f x) && plns (xs.map f)) = true
    rw [h x List.mem_cons_self, plns_map fun y m => h y (List.mem_cons_of_mem _ m)]
    rfl
theorem grs_map {α : Type} {f : α → D} {B : Nat} : ∀ {xs : List α}, (∀ x ∈ xs, gr (f x) ≤ B) → grs (xs.map f) ≤ xs.length * B
  | [], _ => by simp [grs]
  | x :: xs, h => by
    have h1 := h x List.mem_cons_self
    have h2 := grs_map (f := f) (B := B) (xs := xs) fun y m => h y (List.mem_cons_of_mem _ m)
    show gr (f x) + grs (xs.map f) ≤ (xs.length + 1) * B
    rw [Nat.add_mul]
    omega
theorem deps_map {α : Type} {f : α → D} {B : Nat} : ∀ {xs : List α}, (∀ x ∈ xs, D.dep (f x) ≤ B) → D.deps (xs.map f) ≤ B
  | [], _ => Nat.zero_le _
  | x :: xs, h => by
    have h1 := h x List.mem_cons_self
    have h2 := deps_map (f := f) (B := B) (xs := xs) fun y m => h y (List.mem_cons_of_mem _ m)
    show max (D.dep (f x)) (D.deps (xs.map f)) ≤ B
    omega
mutual
theorem ep_dep : ∀ e : Ep, D.dep e.d ≤ 2 * e.ht
  | .num _ => by simp [Ep.d, D.dep, D.deps, Ep.ht]
  | .nam _ => by simp [Ep.d, D.dep, D.deps, Ep.ht]
  | .inn => by simp [Ep.d, D.dep, D.deps, Ep.ht]
  | .op o a b => by
    have := ep_dep a
    have := ep_dep b
    simp only [Ep.d, D.dep, D.deps, Ep.ht]
    omega
  | .call x as => by
    have := ep_deps as
    simp only [Ep.d, D.dep, D.deps, Ep.ht]
    omega
theorem ep_deps : ∀ as : List Ep, D.deps (Ep.ds as) ≤ 2 * Ep.hts as
  | [] => Nat.zero_le _
  | a :: as => by
    have := ep_dep a
    have := ep_deps as
    simp only [Ep.ds, D.deps, Ep.hts]
    omega
end
mutual
theorem st_dep : ∀ s : St, s.fit → D.dep s.d ≤ 2 * s.ht + 19
  | .var x e, f => by have := ep_dep e; have := f.2; simp only [St.d, D.dep, D.deps, St.ht]; omega
  | .set x e, f => by have := ep_dep e; have := f.2; simp only [St.d, D.dep, D.deps, St.ht]; omega
  | .call x as, f => by have := ep_deps as; have := f.2; simp only [Ep.ht] at this; simp only [St.d, D.dep, D.deps, St.ht]; omega
  | .hold b, f => by have := st_deps b f; simp only [St.d, D.dep, D.deps, St.ht]; omega
  | .whl e b, f => by have := ep_dep e; have := f.1.2; have := st_deps b f.2; simp only [St.d, D.dep, D.deps, St.ht]; omega
  | .ifs e b c, f => by have := ep_dep e; have := f.1.2; have := st_deps b f.2.1; have := st_deps c f.2.2; simp only [St.d, D.dep, D.deps, St.ht]; omega
  | .ret e, f => by have := ep_dep e; have := f.2; simp only [St.d, D.dep, D.deps, St.ht]; omega
  | .out e, f => by have := ep_dep e; have := f.2; simp only [St.d, D.dep, D.deps, St.ht]; omega
theorem st_deps : ∀ b : List St, St.fits b → D.deps (St.ds b) ≤ 2 * St.bht b + 19
  | [], _ => Nat.zero_le _
  | s :: b, f => by have := st_dep s f.1; have := st_deps b f.2; simp only [St.ds, D.deps, St.bht]; omega
end
mutual
theorem pln_flat : ∀ d : D, pln d = true → D.flat d = true
  | .tup xs, h => plns_flat xs h
  | .non, _ => rfl
  | .bl _, _ => rfl
  | .int _, _ => rfl
  | .str _, _ => rfl
  | .ref _, h => h
  | .fn _, h => h
theorem plns_flat : ∀ ds : List D, plns ds = true → D.flats ds = true
  | [], _ => rfl
  | d :: ds, h => by
    have h' : (pln d && plns ds) = true := h
    rw [Bool.and_eq_true] at h'
    show (D.flat d && D.flats ds) = true
    rw [pln_flat d h'.1, plns_flat ds h'.2]
    rfl
end
theorem bD_pln (b : List St) : pln (bD b) = true := st_plns b
def Tr.l (t : Tr) : List D := [.tup (t.cells.map cD), .tup (t.funs.map fuD), .tup (t.ons.map oD), bD t.main]
theorem Tr.d_eq (t : Tr) : t.d = .tup t.l := rfl
theorem tr_plns (t : Tr) : plns t.l = true := by
  have h1 : plns (t.cells.map cD) = true := plns_map fun x _ => rfl
  have h2 : plns (t.funs.map fuD) = true := plns_map fun x _ => by
    have : plns (x.2.1.map D.str) = true := plns_map fun _ _ => rfl
    show (true && (plns (x.2.1.map D.str) && (pln (bD x.2.2) && true))) = true
    rw [this, bD_pln]
    rfl
  have h3 : plns (t.ons.map oD) = true := plns_map fun x _ => by
    show (true && (pln (bD x.2) && true)) = true
    rw [bD_pln]
    rfl
  show (plns (t.cells.map cD) && (plns (t.funs.map fuD) && (plns (t.ons.map oD) && (pln (bD t.main) && true)))) = true
  rw [h1, h2, h3, bD_pln]
  rfl
theorem tr_pln (t : Tr) : pln t.d = true := tr_plns t
theorem tr_gr {t : Tr} (o : t.ok) : gr t.d < 10000000 := by
  have h1 : grs (t.cells.map cD) ≤ t.cells.length * 3 := grs_map fun x _ => by simp [cD, gr, grs]
  have h2 : grs (t.funs.map fuD) ≤ t.funs.length * 400020 := grs_map fun x m => by
    obtain ⟨⟨l, _⟩, _, _, g⟩ := o.fb x m
    have : grs (x.2.1.map D.str) ≤ x.2.1.length * 1 := grs_map fun _ _ => by simp [gr]
    simp only [fuD, bD, gr, grs]
    omega
  have h3 : grs (t.ons.map oD) ≤ t.ons.length * 400020 := grs_map fun x m => by
    obtain ⟨_, _, g⟩ := o.ob x m
    simp only [oD, bD, gr, grs]
    omega
  have g4 := o.m.2.2
  have c1 := o.c
  have c2 := o.f
  have c3 := o.o
  have m1 : t.cells.length * 3 ≤ 3 * 3 := Nat.mul_le_mul_right _ c1
  have m2 : t.funs.length * 400020 ≤ 4 * 400020 := Nat.mul_le_mul_right _ c2
  have m3 : t.ons.length * 400020 ≤ 4 * 400020 := Nat.mul_le_mul_right _ c3
  simp only [Tr.d, bD, gr, grs]
  omega
theorem bOk_deps {b : List St} (o : bOk b) : D.deps (St.ds b) ≤ 31 := by
  have := st_deps b o.1
  have := o.2.1
  omega
theorem tr_deps {t : Tr} (o : t.ok) : D.deps t.l ≤ 50 := by
  have h1 : D.deps (t.cells.map cD) ≤ 1 := deps_map fun x _ => by simp [cD, D.dep, D.deps]
  have h2 : D.deps (t.funs.map fuD) ≤ 34 := deps_map fun x m => by
    have := bOk_deps (o.fb x m).2
    have h0 : D.deps (x.2.1.map D.str) ≤ 0 := deps_map fun _ _ => Nat.le_refl _
    simp only [fuD, bD, D.dep, D.deps]
    omega
  have h3 : D.deps (t.ons.map oD) ≤ 34 := deps_map fun x m => by
    have := bOk_deps (o.ob x m)
    simp only [oD, bD, D.dep, D.deps]
    omega
  have := bOk_deps o.m
  simp only [Tr.l, bD, D.dep, D.deps]
  omega
/-- the look of == at two trees -/
theorem tr_chk {t u : Tr} (o : t.ok) : (D.flats t.l && (D.flats u.l && decide (D.deps t.l ≤ 50))) = true := by
  rw [plns_flat _ (tr_plns t), plns_flat _ (tr_plns u), decide_eq_true (tr_deps o)]
  rfl
mutual
theorem eqD_refl : ∀ d : D, pln d = true → eqD d d = true
  | .tup xs, h => eqDs_refl xs h
  | .non, _ => rfl
  | .bl b, _ => by simp [eqD]
  | .int i, _ => by simp [eqD]
  | .str x, _ => strEq_self x
  | .ref _, h => by cases h
  | .fn _, h => by cases h
theorem eqDs_refl : ∀ ds : List D, plns ds = true → eqDs ds ds = true
  | [], _ => rfl
  | d :: ds, h => by
    have h' : (pln d && plns ds) = true := h
    rw [Bool.and_eq_true] at h'
    show (eqD d d && eqDs ds ds) = true
    rw [eqD_refl d h'.1, eqDs_refl ds h'.2]
    rfl
end
def Ep.parts : Ep → List Ep
  | .op _ a b => [a, b]
  | .call _ as => as
  | _ => []
theorem parts_fit : ∀ {e a : Ep}, e.fit → a ∈ e.parts → a.fit
  | .op _ x y, a, f, m => by
    simp only [Ep.parts, List.mem_cons, List.not_mem_nil, or_false] at m
    rcases m with rfl | rfl
    · exact f.1
    · exact f.2
  | .call _ as, a, f, m => fits_mem f.2 m
  | .num _, _, _, m => absurd m List.not_mem_nil
  | .nam _, _, _, m => absurd m List.not_mem_nil
  | .inn, _, _, m => absurd m List.not_mem_nil
theorem parts_ht : ∀ {e a : Ep}, a ∈ e.parts → a.ht + 1 ≤ e.ht
  | .op _ x y, a, m => by
    simp only [Ep.parts, List.mem_cons, List.not_mem_nil, or_false] at m
    simp only [Ep.ht]
    rcases m with rfl | rfl <;> omega
  | .call _ as, a, m => by
    have := hts_mem (show a ∈ as from m)
    simp only [Ep.ht]
    omega
  | .num _, _, m => absurd m List.not_mem_nil
  | .nam _, _, m => absurd m List.not_mem_nil
  | .inn, _, m => absurd m List.not_mem_nil
theorem parts_len : ∀ {e : Ep}, e.fit → e.parts.length ≤ 3
  | .op _ x y, f => by simp [Ep.parts]
  | .call _ as, f => f.1
  | .num _, _ => by simp [Ep.parts]
  | .nam _, _ => by simp [Ep.parts]
  | .inn, _ => by simp [Ep.parts]
theorem inner_ok {n : Nat} {e : Ep} {h : Hh} {Q : Kd} {X : Ex} (hn : 1 ≤ n) (w : ∀ p h', h'[p]? = some (.lst (e.parts.map Ep.d)) → h.length ≤ p → p < h'.length → Keep [] h h' → Q (.ref p) h') : rn n i_inner_expressions [e.d] h Q X := by
  cases n with
  | zero => omega
  | succ n =>
    refine u_inner_expressions ?_
    cases e with
    | op o a b =>
      walk_at "go"
      refine br_t (by cases o <;> rfl) ?_
      walk_at "go"
      exact w _ _ (by assumption) (by assumption) (by assumption) (by assumption)
    | call x as =>
      simp only [Ep.d]
      rw [ds_map]
      walk_at "go"
      exact w _ _ (by assumption) (by assumption) (by assumption) (by assumption)
    | _ =>
      walk_at "go"
      exact w _ _ (by assumption) (by assumption) (by assumption) (by assumption)
def St.es : St → List Ep
  | .var _ e => [e]
  | .set _ e => [e]
  | .call _ as => as
  | .hold _ => []
  | .whl e _ => [e]
  | .ifs e _ _ => [e]
  | .ret e => [e]
  | .out e => [e]
def St.bs : St → List (List St)
  | .hold b => [b]
  | .whl _ b => [b]
  | .ifs _ b c => [b, c]
  | _ => []
theorem oe_ok {n : Nat} {s : St} {h : Hh} {Q : Kd} {X : Ex} (hn : 1 ≤ n) (w : ∀ p h', h'[p]? = some (.lst (s.es.map Ep.d)) → h.length ≤ p → p < h'.length → Keep [] h h' → Q (.ref p) h') : rn n i_own_expressions [s.d] h Q X := by
  cases n with
  | zero => omega
  | succ n =>
    refine u_own_expressions ?_
    cases s
    case call x as =>
      simp only [St.d]
      rw [ds_map]
      walk_at "go"
      exact w _ _ (by assumption) (by assumption) (by assumption) (by assumption)
    all_goals
      walk_at "go"
      exact w _ _ (by assumption) (by assumption) (by assumption) (by assumption)
theorem ob_ok {n : Nat} {s : St} {h : Hh} {Q : Kd} {X : Ex} (hn : 1 ≤ n) (w : ∀ p h', h'[p]? = some (.lst (s.bs.map bD)) → h.length ≤ p → p < h'.length → Keep [] h h' → Q (.ref p) h') : rn n i_own_blocks [s.d] h Q X := by
  cases n with
  | zero => omega
  | succ n =>
    refine u_own_blocks ?_
    cases s
    all_goals
      walk_at "go"
      exact w _ _ (by assumption) (by assumption) (by assumption) (by assumption)
theorem es_fit : ∀ {s : St} {e : Ep}, s.fit → e ∈ s.es → e.fit ∧ e.ht ≤ 8
  | .var _ _, e, f, m => by obtain rfl := List.mem_singleton.mp m; exact f
  | .set _ _, e, f, m => by obtain rfl := List.mem_singleton.mp m; exact f
  | .call x as, e, f, m => ⟨fits_mem f.1.2 m, by have := hts_mem (show e ∈ as from m); have := f.2; simp only [Ep.ht] at this; omega⟩
  | .hold _, e, f, m => absurd m List.not_mem_nil
  | .whl _ _, e, f, m => by obtain rfl := List.mem_singleton.mp m; exact f.1
  | .ifs _ _ _, e, f, m => by obtain rfl := List.mem_singleton.mp m; exact f.1
  | .ret _, e, f, m => by obtain rfl := List.mem_singleton.mp m; exact f
  | .out _, e, f, m => by obtain rfl := List.mem_singleton.mp m; exact f
theorem es_len : ∀ {s : St}, s.fit → s.es.length ≤ 3
  | .var _ _, f => by simp [St.es]
  | .set _ _, f => by simp [St.es]
  | .call x as, f => f.1.1
  | .hold _, f => by simp [St.es]
  | .whl _ _, f => by simp [St.es]
  | .ifs _ _ _, f => by simp [St.es]
  | .ret _, f => by simp [St.es]
  | .out _, f => by simp [St.es]
theorem bs_len : ∀ (s : St), s.bs.length ≤ 2
  | .var _ _ => by simp [St.bs]
  | .set _ _ => by simp [St.bs]
  | .call x as => by simp [St.bs]
  | .hold _ => by simp [St.bs]
  | .whl _ _ => by simp [St.bs]
  | .ifs _ _ _ => by simp [St.bs]
  | .ret _ => by simp [St.bs]
  | .out _ => by simp [St.bs]
theorem bs_fit : ∀ {s : St} {b : List St}, s.fit → b ∈ s.bs → St.fits b ∧ St.bht b + 1 ≤ s.ht ∧ grs (St.ds b) ≤ gr s.d
  | .var _ _, e, f, m => absurd m List.not_mem_nil
  | .set _ _, e, f, m => absurd m List.not_mem_nil
  | .call x as, e, f, m => absurd m List.not_mem_nil
  | .hold b, e, f, m => by
    obtain rfl := List.mem_singleton.mp m
    exact ⟨f, Nat.le_refl _, by simp only [St.d, gr, grs]; omega⟩
  | .whl _ b, e, f, m => by
    obtain rfl := List.mem_singleton.mp m
    exact ⟨f.2, Nat.le_refl _, by simp only [St.d, gr, grs]; omega⟩
  | .ifs _ b c, e, f, m => by
    simp only [St.bs, List.mem_cons, List.not_mem_nil, or_false] at m
    rcases m with rfl | rfl
    · exact ⟨f.2.1, by simp only [St.ht]; omega, by simp only [St.d, gr, grs]; omega⟩
    · exact ⟨f.2.2, by simp only [St.ht]; omega, by simp only [St.d, gr, grs]; omega⟩
  | .ret _, e, f, m => absurd m List.not_mem_nil
  | .out _, e, f, m => absurd m List.not_mem_nil
theorem gr_mem : ∀ {b : List St} {s : St}, s ∈ b → gr s.d ≤ grs (St.ds b)
  | t :: b, s, m => by
    simp only [St.ds, grs]
    rcases List.mem_cons.mp m with rfl | m
    · omega
    · have := gr_mem m; omega

/-! ### dicts -/
theorem lk_cons (e : Str × D) (r : List (Str × D)) (y : Str) : lkD (e :: r) y = if strEq e.1 y then some e.2 else lkD r y := rfl
theorem lk_hit {e : Str × D} {r : List (Str × D)} {y : Str} (h : e.1 = y) : lkD (e :: r) y = some e.2 := by rw [lk_cons, if_pos (strEq_iff.mpr h)]
theorem lk_miss {e : Str × D} {r : List (Str × D)} {y : Str} (h : ¬ e.1 = y) : lkD (e :: r) y = lkD r y := by rw [lk_cons, if_neg fun z => h (strEq_iff.mp z)]
theorem lk_map {x : Str} {d : D} (y : Str) : ∀ kvs : List (Str × D), lkD (kvs.map fun kv => if strEq kv.1 x then (kv.1, d) else kv) y = if y = x then (if kvs.any (fun kv => strEq kv.1 x) then some d else none) else lkD kvs y
  | [] => by by_cases h : y = x <;> simp [lkD, h]
  | e :: r => by
    have ih := lk_map (x := x) (d := d) y r
    rw [List.map_cons, List.any_cons]
    by_cases h : e.1 = x
    · rw [if_pos (strEq_iff.mpr h), strEq_iff.mpr h]
      by_cases hy : y = x
      · rw [lk_cons, if_pos (strEq_iff.mpr (h.trans hy.symm)), if_pos hy]
        rfl
      · have hne : ¬ e.1 = y := fun z => hy (z.symm.trans h)
        rw [lk_cons, if_neg (fun z => hne (strEq_iff.mp z)), ih, if_neg hy, if_neg hy, lk_miss hne]
    · have hx : strEq e.1 x = false := by simpa using fun z => h (strEq_iff.mp z)
      rw [if_neg (by rw [hx]; decide), hx, Bool.false_or]
      by_cases hy : e.1 = y
      · have hne : ¬ y = x := fun z => h (hy.trans z)
        rw [lk_hit hy, if_neg hne, lk_hit hy]
      · rw [lk_miss hy, ih]
        by_cases hyx : y = x
        · rw [if_pos hyx, if_pos hyx]
        · rw [if_neg hyx, if_neg hyx, lk_miss hy]
theorem lk_end {x : Str} {d : D} (y : Str) : ∀ kvs : List (Str × D), kvs.any (fun kv => strEq kv.1 x) = false → lkD (kvs ++ [(x, d)]) y = if y = x then some d else lkD kvs y
  | [], _ => by
    show lkD [(x, d)] y = _
    by_cases hy : y = x
    · rw [lk_hit hy.symm, if_pos hy]
    · rw [lk_miss fun z => hy z.symm, if_neg hy]
  | e :: r, h => by
    rw [List.any_cons, Bool.or_eq_false_iff] at h
    rw [List.cons_append]
    by_cases hy : e.1 = y
    · have hne : ¬ y = x := fun z => by rw [← hy] at z; have := strEq_iff.mpr z; rw [h.1] at this; cases this
      rw [lk_hit hy, if_neg hne, lk_hit hy]
    · rw [lk_miss hy, lk_end y r h.2]
      by_cases hyx : y = x
      · rw [if_pos hyx, if_pos hyx]
      · rw [if_neg hyx, if_neg hyx, lk_miss hy]
theorem lk_put {kvs : List (Str × D)} {x : Str} {d : D} (y : Str) : lkD (putD kvs x d) y = if y = x then some d else lkD kvs y := by
  unfold putD
  by_cases h : (kvs.any fun kv => strEq kv.1 x) = true
  · rw [if_pos h, lk_map, if_pos h]
  · rw [if_neg h]
    exact lk_end y kvs (by simpa using h)
theorem put_keys {kvs : List (Str × D)} {x : Str} {d : D} : (putD kvs x d).map (·.1) = if kvs.any (fun kv => strEq kv.1 x) then kvs.map (·.1) else kvs.map (·.1) ++ [x] := by
  unfold putD
  split
  · rw [List.map_map]
    refine List.map_congr_left fun e _ => ?_
    show (if strEq e.1 x then (e.1, d) else e).1 = e.1
    split <;> rfl
  · rw [List.map_append]
    rfl
theorem put_len {kvs : List (Str × D)} {x : Str} {d : D} : (putD kvs x d).length ≤ kvs.length + 1 := by
  unfold putD
  split
  · rw [List.length_map]; omega
  · simp
theorem put_nodup {kvs : List (Str × D)} {x : Str} {d : D} (h : (kvs.map (·.1)).Nodup) : ((putD kvs x d).map (·.1)).Nodup := by
  rw [put_keys]
  split
  · exact h
  · rename_i hn
    refine List.nodup_append.mpr ⟨h, List.nodup_cons.mpr ⟨List.not_mem_nil, List.nodup_nil⟩, fun a ha b hb e => ?_⟩
    obtain rfl := List.mem_singleton.mp hb
    obtain ⟨kv, hk, rfl⟩ := List.mem_map.mp ha
    exact hn (List.any_eq_true.mpr ⟨kv, hk, strEq_iff.mpr e⟩)
theorem lk_merge : ∀ {es kvs : List (Str × D)} (x : Str), (es.map (·.1)).Nodup → lkD (mergeD kvs es) x = (lkD es x).or (lkD kvs x)
  | [], _, _, _ => rfl
  | e :: es, kvs, x, h => by
    have h' := List.nodup_cons.mp (show (e.1 :: es.map (·.1)).Nodup from h)
    show lkD (mergeD (putD kvs e.1 e.2) es) x = _
    rw [lk_merge x h'.2, lk_put]
    have no : ∀ es : List (Str × D), e.1 ∉ es.map (·.1) → lkD es e.1 = none := by
      intro es
      induction es with
      | nil => intro _; rfl
      | cons a r ih =>
        intro hn
        rw [lk_miss fun z => hn (by rw [List.map_cons, z]; exact List.mem_cons_self)]
        exact ih fun m => hn (List.mem_cons_of_mem _ m)
    by_cases hx : x = e.1
    · subst hx
      rw [no es h'.1, if_pos rfl, lk_hit rfl]
      rfl
    · rw [if_neg hx, lk_miss fun z => hx z.symm]
theorem merge_keys : ∀ {es kvs : List (Str × D)}, (kvs.map (·.1)).Nodup → ((mergeD kvs es).map (·.1)).Nodup
  | [], _, h => h
  | e :: es, kvs, h => merge_keys (es := es) (put_nodup h)
theorem merge_len : ∀ {es kvs : List (Str × D)}, (mergeD kvs es).length ≤ kvs.length + es.length
  | [], _ => Nat.le_refl _
  | e :: es, kvs => by
    have h1 := merge_len (es := es) (kvs := putD kvs e.1 e.2)
    have h2 := put_len (kvs := kvs) (x := e.1) (d := e.2)
    show (mergeD (putD kvs e.1 e.2) es).length ≤ _
    rw [List.length_cons]
    omega
/-- the dict at n tells f -/
structure DT (h : Hh) (n : Nat) (f : Tab) (m : Nat) : Prop where
  ex : ∃ kvs, h[n]? = some (.dic kvs) ∧ (∀ x, lkD kvs x = (f x).map D.str) ∧ (kvs.map (·.1)).Nodup ∧ kvs.length ≤ m
theorem DT.mono {h h' : Hh} {n m : Nat} {f : Tab} {S : List Nat} (d : DT h n f m) (k : Keep S h h') (hn : n ∉ S) : DT h' n f m := by
  obtain ⟨kvs, e, a, b, c⟩ := d
  exact ⟨kvs, k.get e hn, a, b, c⟩
theorem DT.lt {h : Hh} {n m : Nat} {f : Tab} (d : DT h n f m) : n < h.length := by
  obtain ⟨kvs, e, a, b, c⟩ := d
  exact lt_of e
theorem DT.gd {kvs : List (Str × D)} {f : Tab} (a : ∀ x, lkD kvs x = (f x).map D.str) (x : Str) : (lkD kvs x).getD (.str x) = .str (gd f x) := by
  rw [a]
  unfold Lw.gd
  cases f x <;> rfl
/-! ### the program: expressions -/
theorem with_ok {n p : Nat} {e : Ep} {h : Hh} {Q : Kd} {X : Ex} {ν φ : Str → Str} (hn : 1 ≤ n) (h1 : ∀ x, e ≠ .nam x) (h2 : ∀ x as, e ≠ .call x as) (ep : h[p]? = some (.lst (e.parts.map fun a => (a.ren ν φ).d))) (w : Q (e.ren ν φ).d h) : rn n i_with_inner [e.d, .ref p] h Q X := by
  cases n with
  | zero => omega
  | succ n =>
    refine u_with_inner ?_
    cases e with
    | op o a b =>
      simp only [Ep.parts, List.map_cons, List.map_nil] at ep
      walk_at "go"
      refine br_t (by cases o <;> rfl) ?_
      walk_at "go"
      exact w
    | call x as => exact absurd rfl (h2 x as)
    | nam x => exact absurd rfl (h1 x)
    | _ =>
      walk_at "go"
      exact w
theorem te_ok : ∀ (n : Nat) (e : Ep) (p q m1 m2 : Nat) (f g : Tab) (h : Hh) (Q : Kd) (X : Ex), e.ht + 2 ≤ n → e.fit → DT h p f m1 → DT h q g m2 → (∀ h', Keep [] h h' → Q (e.ren (gd f) (gd g)).d h') → rn n i_turned_expression [e.d, .ref p, .ref q] h Q X
  | 0, e, _, _, _, _, _, _, _, _, _, hn, _, _, _, _ => absurd hn (by omega)
  | n + 1, e, p, q, m1, m2, f, g, h, Q, X, hn, hf, dp, dq, w => by
    have hp := ht_pos e
    have s1 := dp.lt
    have s2 := dq.lt
    refine u_turned_expression ?_
    by_cases hnam : ∃ x, e = .nam x
    · obtain ⟨x, rfl⟩ := hnam
      obtain ⟨kvs, e1, a1, _, _⟩ := dp
      walk_at "go"
      have := w h Keep.refl
      simp only [Ep.ren, Ep.d] at this
      rw [DT.gd a1]
      exact this
    cases e with
    | nam x => exact absurd ⟨x, rfl⟩ hnam
    | num z =>
      walk_at "go"
      refine inner_ok (e := .num z) (by omega) fun r h2 e2 g1 g2 k2 => ?_
      have l2 := k2.len
      walk_at "go"
      rename_i q2 h3 e3 g3 g4 g5 k3
      have hl := parts_len hf
      refine mapL_i Ep.d (fun a => (a.ren (gd f) (gd g)).d) (.num z : Ep).parts (by walk_at "get") e3 (by omega) (by omega) (fun x hx h4 K N k4 hK => ?_) fun h4 e4 k4 => ?_
      · have := parts_ht hx
        have k04 : Keep [q2] h h4 := by walk_at "keep"
        walk_at "go"
        exact te_ok n x p q m1 m2 f g _ _ _ (by omega) (parts_fit hf hx) (dp.mono k04 (by walk_at "mem")) (dq.mono k04 (by walk_at "mem")) hK
      have k04 : Keep [] h h4 := by walk_at "keep"
      walk_at "go"
      exact with_ok (e := .num z) (by omega) (fun _ z => by cases z) (fun _ _ z => by cases z) e4 (w _ k04)
    | inn =>
      walk_at "go"
      refine inner_ok (e := .inn) (by omega) fun r h2 e2 g1 g2 k2 => ?_
      have l2 := k2.len
      walk_at "go"
      rename_i q2 h3 e3 g3 g4 g5 k3
      have hl := parts_len hf
      refine mapL_i Ep.d (fun a => (a.ren (gd f) (gd g)).d) (.inn : Ep).parts (by walk_at "get") e3 (by omega) (by omega) (fun x hx h4 K N k4 hK => ?_) fun h4 e4 k4 => ?_
      · have := parts_ht hx
        have k04 : Keep [q2] h h4 := by walk_at "keep"
        walk_at "go"
        exact te_ok n x p q m1 m2 f g _ _ _ (by omega) (parts_fit hf hx) (dp.mono k04 (by walk_at "mem")) (dq.mono k04 (by walk_at "mem")) hK
      have k04 : Keep [] h h4 := by walk_at "keep"
      walk_at "go"
      exact with_ok (e := .inn) (by omega) (fun _ z => by cases z) (fun _ _ z => by cases z) e4 (w _ k04)
    | op o a b =>
      walk_at "go"
      refine br_f (by cases o <;> rfl) ?_
      walk_at "go"
      refine inner_ok (e := .op o a b) (by omega) fun r h2 e2 g1 g2 k2 => ?_
      have l2 := k2.len
      walk_at "go"
      rename_i q2 h3 e3 g3 g4 g5 k3
      have hl := parts_len hf
      refine mapL_i Ep.d (fun a => (a.ren (gd f) (gd g)).d) (.op o a b : Ep).parts (by walk_at "get") e3 (by omega) (by omega) (fun x hx h4 K N k4 hK => ?_) fun h4 e4 k4 => ?_
      · have := parts_ht hx
        have k04 : Keep [q2] h h4 := by walk_at "keep"
        walk_at "go"
        exact te_ok n x p q m1 m2 f g _ _ _ (by omega) (parts_fit hf hx) (dp.mono k04 (by walk_at "mem")) (dq.mono k04 (by walk_at "mem")) hK
      have k04 : Keep [] h h4 := by walk_at "keep"
      walk_at "go"
      refine br_f (by cases o <;> rfl) ?_
      walk_at "go"
      exact with_ok (e := .op o a b) (by omega) (fun _ z => by cases z) (fun _ _ z => by cases z) e4 (w _ k04)
    | call x as =>
      walk_at "go"
      refine inner_ok (e := .call x as) (by omega) fun r h2 e2 g1 g2 k2 => ?_
      have l2 := k2.len
      walk_at "go"
      rename_i q2 h3 e3 g3 g4 g5 k3
      have hl := parts_len hf
      refine mapL_i Ep.d (fun a => (a.ren (gd f) (gd g)).d) (.call x as : Ep).parts (by walk_at "get") e3 (by omega) (by omega) (fun x hx h4 K N k4 hK => ?_) fun h4 e4 k4 => ?_
      · have := parts_ht hx
        have k04 : Keep [q2] h h4 := by walk_at "keep"
        walk_at "go"
        exact te_ok n x p q m1 m2 f g _ _ _ (by omega) (parts_fit hf hx) (dp.mono k04 (by walk_at "mem")) (dq.mono k04 (by walk_at "mem")) hK
      have k04 : Keep [] h h4 := by walk_at "keep"
      obtain ⟨kvs, e1, a1, _, _⟩ := dq.mono k04 List.not_mem_nil
      simp only [Ep.parts] at e4
      walk_at "go"
      have := w h4 k04
      simp only [Ep.ren, Ep.d] at this
      rw [DT.gd a1]
      rw [rens_map, ds_map, List.map_map] at this
      exact this
end Lw

set_option Elab.async false
set_option linter.all false
set_option maxRecDepth 100000
set_option maxHeartbeats 1000000
namespace Lw
open PySem PySem.Spec PyProof.Rows L2 Mi
local macro_rules | `(tactic| walk_at "mem") => `(tactic| first | exact fun _ z => absurd z List.not_mem_nil | exact List.not_mem_nil | (intro i hi; simp only [List.mem_cons, List.not_mem_nil, or_false, false_or] at hi ⊢; omega) | (simp only [List.mem_cons, List.not_mem_nil, or_false, false_or, not_or]; omega))
local macro_rules | `(tactic| walk_at "get") => `(tactic| first | assumption | (apply Keep.get; assumption; walk_at "get"; walk_at "mem"))
local macro_rules | `(tactic| walk_at "keep") => `(tactic| first | assumption | exact Keep.refl | (apply Keep.step; assumption; walk_at "keep"; walk_at "mem"))
local macro_rules | `(tactic| walk_at "one") => `(tactic| (conv => whnf) <;> first
  | (apply br_t; rfl)
  | (apply br_f; rfl)
  | (apply rdO_i; walk_at "get")
  | (apply itm_i; first | rfl | assumption | exact getAt_end _ _)
  | (apply gtD_i; assumption)
  | (apply new_i; intro p h' e1 l1 l2 l3 k)
  | (apply put_i; walk_at "get"; intro h' e1 l1 k)
  | (apply iLst_i; first | rfl | exact intsOf_map _)
  | (apply chk_i; first | rfl | exact lenOk_le (by simp only [List.length_map, List.length_cons, List.length_append, List.length_take, List.length_nil, List.length_replicate, List.length_dropLast]; omega) | exact small_lt (by simp only [List.length_map, List.length_cons, List.length_append, List.length_take, List.length_nil, List.length_replicate, List.length_dropLast]; omega) | assumption | exact mulOk_r (by decide) | exact mulOk_l (by decide) | exact lenOk_le (by omega) | exact small_lt (by omega) | (simp; omega)))
local macro_rules | `(tactic| walk_at "go") => `(tactic| (repeat walk_at "one"); try (conv => whnf))
local macro_rules | `(tactic| walk_at "br") => `(tactic| (refine br_i (fun hc => ?_) (fun hc => ?_) <;> simp only [Bool.not_eq_true', Bool.not_eq_false', beq_iff_eq, beq_eq_false_iff_ne, ne_eq, decide_eq_true_eq, decide_eq_false_iff_not, bne_iff_ne, bne_eq_false_iff_eq] at hc) <;> first | (exfalso; omega) | walk_at "go")
theorem wo_ok {n p q : Nat} {s : St} {h : Hh} {Q : Kd} {X : Ex} {ν φ : Str → Str} (hn : 1 ≤ n) (h1 : ∀ x e, s ≠ .var x e) (h2 : ∀ x e, s ≠ .set x e) (h3 : ∀ x as, s ≠ .call x as) (ep : h[p]? = some (.lst (s.es.map fun e => (e.ren ν φ).d))) (eq : h[q]? = some (.lst (s.bs.map fun b => bD (St.rens ν φ b)))) (w : Q (s.ren ν φ).d h) : rn n i_with_own [s.d, .ref p, .ref q] h Q X := by
  cases n with
  | zero => omega
  | succ n =>
    refine u_with_own ?_
    cases s
    case call x as => exact absurd rfl (h3 x as)
    case var x e => exact absurd rfl (h1 x e)
    case set x e => exact absurd rfl (h2 x e)
    all_goals
      simp only [St.es, St.bs, List.map_cons, List.map_nil] at ep eq
      walk_at "go"
      exact w
theorem tn_ok : ∀ (n : Nat) (b : List St) (p q m1 m2 : Nat) (f g : Tab) (h : Hh) (Q : Kd) (X : Ex), St.bht b + 12 ≤ n → St.fits b → grs (St.ds b) < 10000000 → DT h p f m1 → DT h q g m2 → (∀ h', Keep [] h h' → Q (bD (St.rens (gd f) (gd g) b)) h') → rn n i_turned_names [bD b, .ref p, .ref q] h Q X
  | 0, b, _, _, _, _, _, _, _, _, _, hn, _, _, _, _, _ => absurd hn (by omega)
  | n + 1, b, p, q, m1, m2, f, g, h, Q, X, hn, hf, hg, dp, dq, w => by
    have s1 := dp.lt
    have s2 := dq.lt
    refine u_turned_names ?_
    have hlen := len_grs (St.ds b)
    rw [sds_len] at hlen
    unfold bD
    walk_at "go"
    rename_i t h1 e1 g1 g2 g3 k1
    have k01 : Keep [] h h1 := by walk_at "keep"
    refine loop_i (I := fun r σ h' => ∃ z1 z2 x4 x5 x6 x7 x8, b = z1 ++ z2 ∧ r = St.ds z2 ∧ σ = [some (.tup (St.ds b)), some (.ref p), some (.ref q), some (.ref t), x4, x5, x6, x7, x8] ∧ h'[t]? = some (.lst (St.ds (St.rens (gd f) (gd g) z1))) ∧ h1.length ≤ h'.length ∧ Keep [t] h1 h') ?_ ?_ _ _ _ ⟨[], b, _, _, _, _, _, rfl, rfl, rfl, e1, Nat.le_refl _, Keep.refl⟩
    · rintro x r σ h2 K ⟨z1, z2, x4, x5, x6, x7, x8, ez, er, rfl, ep, l2, k2⟩ hK
      cases z2 with
      | nil => cases er
      | cons s z2 =>
        simp only [St.ds, List.cons.injEq] at er
        obtain ⟨rfl, rfl⟩ := er
        have ms : s ∈ b := by rw [ez]; simp
        have fs := sfits_mem hf ms
        have hs := bht_mem ms
        have gs := gr_mem ms
        have hl := congrArg List.length ez
        simp only [List.length_append, List.length_cons] at hl
        have pl2 := lt_of ep
        walk_at "go"
        refine oe_ok (by omega) fun y h3 e3 g3 g4 k3 => ?_
        have l3 := k3.len
        walk_at "go"
        rename_i u h4 e4 g5 g6 g7 k4
        refine mapL_i Ep.d (fun e => (e.ren (gd f) (gd g)).d) s.es (by walk_at "get") e4 (by omega) (by have := es_len fs; omega) (fun x hx h5 K2 N k5 hK2 => ?_) fun h5 e5 k5 => ?_
        · obtain ⟨f5, t5⟩ := es_fit fs hx
          have k05 : Keep [t, u] h h5 := by walk_at "keep"
          walk_at "go"
          exact te_ok n x p q m1 m2 f g _ _ _ (by omega) f5 (dp.mono k05 (by walk_at "mem")) (dq.mono k05 (by walk_at "mem")) hK2
        have l5 := k5.len
        walk_at "go"
        refine ob_ok (by omega) fun v h6 e6 g8 g9 k6 => ?_
        have l6 := k6.len
        walk_at "go"
        rename_i z h7 e7 g10 g11 g12 k7
        refine mapL_i bD (fun b => bD (St.rens (gd f) (gd g) b)) s.bs (by walk_at "get") e7 (by omega) (by have := bs_len s; omega) (fun x hx h8 K2 N k8 hK2 => ?_) fun h8 e8 k8 => ?_
        · obtain ⟨f8, t8, gr8⟩ := bs_fit fs hx
          have k08 : Keep [t, z] h h8 := by walk_at "keep"
          walk_at "go"
          exact tn_ok n x p q m1 m2 f g _ _ _ (by omega) f8 (by omega) (dp.mono k08 (by walk_at "mem")) (dq.mono k08 (by walk_at "mem")) hK2
        have l8 := k8.len
        have ep8 : h8[t]? = some (.lst (St.ds (St.rens (gd f) (gd g) z1))) := by walk_at "get"
        have e58 : h8[u]? = some (.lst (s.es.map fun e => (e.ren (gd f) (gd g)).d)) := by walk_at "get"
        have k18 : Keep [t] h1 h8 := by walk_at "keep"
        have k08 : Keep [t] h h8 := by walk_at "keep"
        have hl8 : (St.ds (St.rens (gd f) (gd g) z1)).length = z1.length := by rw [sds_len, srens_map, List.length_map]
        have FIN : ∀ y4 y5 y6 y7 y8 h9, h9[t]? = some (.lst (St.ds (St.rens (gd f) (gd g) z1) ++ [(s.ren (gd f) (gd g)).d])) → h8.length ≤ h9.length → Keep [t] h8 h9 → K [some (.tup (St.ds b)), some (.ref p), some (.ref q), some (.ref t), y4, y5, y6, y7, y8] h9 := fun y4 y5 y6 y7 y8 h9 e9 l9 k9 =>
          hK _ _ ⟨z1 ++ [s], z2, _, _, _, _, _, by rw [ez]; simp, rfl, rfl, by rw [e9, srens_map, srens_map, List.map_append, sds_app]; rfl, by omega, by walk_at "keep"⟩
        obtain ⟨kp, ekp, akp, _, _⟩ := dp.mono k08 (by walk_at "mem")
        obtain ⟨kq, ekq, akq, _, _⟩ := dq.mono k08 (by walk_at "mem")
        cases s with
        | var x e =>
          simp only [St.es, List.map_cons, List.map_nil] at e58
          walk_at "go"
          rename_i h9 e9 l9 k9
          rw [DT.gd akp] at e9
          exact FIN _ _ _ _ _ _ e9 (by omega) (by walk_at "keep")
        | set x e =>
          simp only [St.es, List.map_cons, List.map_nil] at e58
          walk_at "go"
          rename_i h9 e9 l9 k9
          rw [DT.gd akp] at e9
          exact FIN _ _ _ _ _ _ e9 (by omega) (by walk_at "keep")
        | call x as =>
          simp only [St.es] at e58
          walk_at "go"
          rename_i h9 e9 l9 k9
          rw [DT.gd akq] at e9
          refine FIN _ _ _ _ _ _ ?_ (by omega) (by walk_at "keep")
          rw [e9]
          show some (MO.lst (_ ++ [D.tup [_, _, D.tup (List.map (fun e => (e.ren (gd f) (gd g)).d) as)]])) = some (MO.lst (_ ++ [D.tup [_, _, D.tup (Ep.ds (Ep.rens (gd f) (gd g) as))]]))
          rw [ds_map, rens_map, List.map_map]
          rfl
        | hold b1 =>
          walk_at "go"
          refine wo_ok (s := .hold b1) (by omega) (fun _ _ z => by cases z) (fun _ _ z => by cases z) (fun _ _ z => by cases z) e58 e8 ?_
          walk_at "go"
          exact FIN _ _ _ _ _ _ (by assumption) (by omega) (by walk_at "keep")
        | whl e b1 =>
          walk_at "go"
          refine wo_ok (s := .whl e b1) (by omega) (fun _ _ z => by cases z) (fun _ _ z => by cases z) (fun _ _ z => by cases z) e58 e8 ?_
          walk_at "go"
          exact FIN _ _ _ _ _ _ (by assumption) (by omega) (by walk_at "keep")
        | ifs e b1 b2 =>
          walk_at "go"
          refine wo_ok (s := .ifs e b1 b2) (by omega) (fun _ _ z => by cases z) (fun _ _ z => by cases z) (fun _ _ z => by cases z) e58 e8 ?_
          walk_at "go"
          exact FIN _ _ _ _ _ _ (by assumption) (by omega) (by walk_at "keep")
        | ret e =>
          walk_at "go"
          refine wo_ok (s := .ret e) (by omega) (fun _ _ z => by cases z) (fun _ _ z => by cases z) (fun _ _ z => by cases z) e58 e8 ?_
          walk_at "go"
          exact FIN _ _ _ _ _ _ (by assumption) (by omega) (by walk_at "keep")
        | out e =>
          walk_at "go"
          refine wo_ok (s := .out e) (by omega) (fun _ _ z => by cases z) (fun _ _ z => by cases z) (fun _ _ z => by cases z) e58 e8 ?_
          walk_at "go"
          exact FIN _ _ _ _ _ _ (by assumption) (by omega) (by walk_at "keep")
    · rintro σ h2 ⟨z1, z2, x4, x5, x6, x7, x8, ez, er, rfl, ep, l2, k2⟩
      cases z2 with
      | cons s z2 => cases er
      | nil =>
        rw [List.append_nil] at ez
        subst ez
        walk_at "go"
        exact w _ (by walk_at "keep")
/-! ### the locals -/
mutual
def St.all : St → List St
  | .hold b => .hold b :: St.alls b
  | .whl e b => .whl e b :: St.alls b
  | .ifs e b c => .ifs e b c :: (St.alls b ++ St.alls c)
  | .var x e => [.var x e]
  | .set x e => [.set x e]
  | .call x as => [.call x as]
  | .ret e => [.ret e]
  | .out e => [.out e]
def St.alls : List St → List St
  | [] => []
  | s :: b => s.all ++ St.alls b
end
theorem all_bs (s : St) : s.all = s :: (s.bs.map St.alls).flatten := by cases s <;> simp [St.all, St.bs]
theorem alls_app : ∀ as bs : List St, St.alls (as ++ bs) = St.alls as ++ St.alls bs
  | [], _ => rfl
  | a :: as, bs => by show a.all ++ St.alls (as ++ bs) = _; rw [alls_app as bs, ← List.append_assoc]; rfl
mutual
theorem all_len : ∀ s : St, s.all.length ≤ gr s.d
  | .hold b => by have := alls_len b; simp only [St.all, St.d, gr, grs, List.length_cons]; omega
  | .whl e b => by have := alls_len b; simp only [St.all, St.d, gr, grs, List.length_cons]; omega
  | .ifs e b c => by have := alls_len b; have := alls_len c; simp only [St.all, St.d, gr, grs, List.length_cons, List.length_append]; omega
  | .var x e => by simp [St.all, St.d, gr, grs]
  | .set x e => by simp [St.all, St.d, gr, grs]
  | .call x as => by simp [St.all, St.d, gr, grs]
  | .ret e => by simp [St.all, St.d, gr, grs]
  | .out e => by simp [St.all, St.d, gr, grs]
theorem alls_len : ∀ b : List St, (St.alls b).length ≤ grs (St.ds b)
  | [] => Nat.le_refl _
  | s :: b => by have := all_len s; have := alls_len b; simp only [St.alls, St.ds, grs, List.length_append]; omega
end
def isVar : St → Bool
  | .var _ _ => true
  | _ => false
def varOf : St → Str
  | .var x _ => x
  | _ => w_
mutual
theorem all_vars : ∀ s : St, (s.all.filter isVar).map varOf = s.vars
  | .hold b => alls_vars b
  | .whl e b => alls_vars b
  | .ifs e b c => by
    show ((St.alls b ++ St.alls c).filter isVar).map varOf = _
    rw [List.filter_append, List.map_append, alls_vars b, alls_vars c]
    rfl
  | .var x e => rfl
  | .set x e => rfl
  | .call x as => rfl
  | .ret e => rfl
  | .out e => rfl
theorem alls_vars : ∀ b : List St, ((St.alls b).filter isVar).map varOf = St.bvars b
  | [] => rfl
  | s :: b => by
    show ((s.all ++ St.alls b).filter isVar).map varOf = s.vars ++ St.bvars b
    rw [List.filter_append, List.map_append, all_vars s, alls_vars b]
end
theorem bvars_len (b : List St) : (St.bvars b).length ≤ grs (St.ds b) := by
  rw [← alls_vars b, List.length_map]
  exact Nat.le_trans (List.length_filter_le _ _) (alls_len b)
theorem as_ok : ∀ (n : Nat) (b : List St) (h : Hh) (Q : Kd) (X : Ex), St.bht b + 2 ≤ n → St.fits b → grs (St.ds b) < 10000000 → (∀ p h', h'[p]? = some (.lst ((St.alls b).map St.d)) → h.length ≤ p → p < h'.length → Keep [] h h' → Q (.ref p) h') → rn n i_all_statements [bD b] h Q X
  | 0, b, _, _, _, hn, _, _, _ => absurd hn (by omega)
  | n + 1, b, h, Q, X, hn, hf, hg, w => by
    refine u_all_statements ?_
    unfold bD
    walk_at "go"
    rename_i t h1 e1 g1 g2 g3 k1
    refine loop_i (I := fun r σ h' => ∃ z1 z2 x2 x3, b = z1 ++ z2 ∧ r = St.ds z2 ∧ σ = [some (.tup (St.ds b)), some (.ref t), x2, x3] ∧ h'[t]? = some (.lst ((St.alls z1).map St.d)) ∧ h1.length ≤ h'.length ∧ Keep [t] h1 h') ?_ ?_ _ _ _ ⟨[], b, _, _, rfl, rfl, rfl, e1, Nat.le_refl _, Keep.refl⟩
    · rintro x r σ h2 K ⟨z1, z2, x2, x3, ez, er, rfl, ep, l2, k2⟩ hK
      cases z2 with
      | nil => cases er
      | cons s z2 =>
        simp only [St.ds, List.cons.injEq] at er
        obtain ⟨rfl, rfl⟩ := er
        have ms : s ∈ b := by rw [ez]; simp
        have fs := sfits_mem hf ms
        have hs := bht_mem ms
        have gs := gr_mem ms
        have la1 := alls_len z1
        have la2 := all_len s
        have lg : grs (St.ds b) = grs (St.ds z1) + (gr s.d + grs (St.ds z2)) := by rw [ez, sds_app, grs_app]; rfl
        have pl2 := lt_of ep
        walk_at "go"
        rename_i h3 e3 l3 k3
        refine ob_ok (by omega) fun v h4 e4 g4 g5 k4 => ?_
        have l4 := k4.len
        have ab := all_bs s
        walk_at "go"
        have k14 : Keep [t] h1 h4 := by walk_at "keep"
        have e34 : h4[t]? = some (.lst ((St.alls z1 ++ [s]).map St.d)) := by rw [k4.get e3 List.not_mem_nil, List.map_append]; rfl
        refine loopL_i (s.bs.map bD) (I := fun r σ h' => ∃ w1 w2 x3, s.bs = w1 ++ w2 ∧ r = w2.map bD ∧ σ = [some (.tup (St.ds b)), some (.ref t), some s.d, x3] ∧ h'[t]? = some (.lst ((St.alls z1 ++ [s] ++ (w1.map St.alls).flatten).map St.d)) ∧ h4.length ≤ h'.length ∧ Keep [t] h4 h') ?_ ?_ ?_ (s.bs.map bD) _ _ _ _ (by simp) (fuel_lt (by have := bs_len s; rw [List.length_map]; omega)) ⟨[], s.bs, _, rfl, rfl, rfl, by rw [e34]; simp, Nat.le_refl _, Keep.refl⟩
        · rintro r σ h' ⟨w1, w2, y3, eb, er, es, et, l', k'⟩
          exact k'.get e4 (by walk_at "mem")
        · rintro x r σ h5 K2 ⟨w1, w2, y3, eb, er, rfl, et, l5, k5⟩ hK2
          cases w2 with
          | nil => cases er
          | cons ib w2 =>
            simp only [List.map_cons, List.cons.injEq] at er
            obtain ⟨rfl, rfl⟩ := er
            obtain ⟨f8, t8, gr8⟩ := bs_fit (s := s) (b := ib) fs (by rw [eb]; simp)
            have lsum : (s.all).length = 1 + ((w1.map St.alls).flatten.length + ((St.alls ib).length + (w2.map St.alls).flatten.length)) := by
              rw [ab, eb, List.map_append, List.flatten_append]
              simp only [List.length_cons, List.length_append, List.map_cons, List.flatten_cons]
              omega
            walk_at "go"
            refine as_ok n ib _ _ _ (by omega) f8 (by omega) fun y h6 e6 g6 g7 k6 => ?_
            have l6 := k6.len
            have et6 := k6.get et List.not_mem_nil
            walk_at "go"
            rename_i h7 e7 l7 k7
            exact hK2 _ _ ⟨w1 ++ [ib], w2, _, by rw [eb]; simp, rfl, rfl, by rw [e7, ← List.map_append]; simp, by omega, by walk_at "keep"⟩
        · rintro σ h5 ⟨w1, w2, y3, eb, er, rfl, et, l5, k5⟩
          have : w2 = [] := List.map_eq_nil_iff.mp er.symm
          subst this
          rw [List.append_nil] at eb
          refine hK _ _ ⟨z1 ++ [s], z2, _, _, by rw [ez]; simp, rfl, rfl, ?_, by omega, by walk_at "keep"⟩
          rw [et, alls_app, ← eb]
          show some (MO.lst ((St.alls z1 ++ [s] ++ _).map St.d)) = some (MO.lst ((St.alls z1 ++ (s.all ++ [])).map St.d))
          rw [ab, List.append_nil, List.append_assoc]
          rfl
    · rintro σ h2 ⟨z1, z2, x2, x3, ez, er, rfl, ep, l2, k2⟩
      cases z2 with
      | cons s z2 => cases er
      | nil =>
        rw [List.append_nil] at ez
        subst ez
        walk_at "go"
        exact w _ _ ep (by omega) (lt_of ep) (by walk_at "keep")
theorem lo_ok {n : Nat} {b : List St} {h : Hh} {Q : Kd} {X : Ex} (hn : St.bht b + 3 ≤ n) (hf : St.fits b) (hg : grs (St.ds b) < 10000000) (w : ∀ h', Keep [] h h' → Q (.tup ((St.bvars b).map .str)) h') : rn n i_locals_of [bD b] h Q X := by
  cases n with
  | zero => omega
  | succ n =>
    refine u_locals_of ?_
    walk_at "go"
    refine as_ok n b _ _ _ (by omega) hf hg fun p h1 e1 g1 g2 k1 => ?_
    have l1 := k1.len
    walk_at "go"
    rename_i q h2 e2 g3 g4 g5 k2
    have al := alls_len b
    refine fltL_i St.d (fun s => .str (varOf s)) isVar (St.alls b) (by walk_at "get") e2 (by omega) (by omega) (fun x hx h3 K N k3 hK hN => ?_) fun h3 e3 k3 => ?_
    · cases x with
      | var x e => walk_at "go"; exact hK rfl _ Keep.refl
      | _ => walk_at "go"; exact hN rfl _ Keep.refl
    · have ev : (((St.alls b).filter isVar).map fun s => D.str (varOf s)) = (St.bvars b).map .str := by rw [← alls_vars b, List.map_map]; rfl
      rw [ev] at e3
      walk_at "go"
      exact w _ (by walk_at "keep")
end Lw

set_option Elab.async false
set_option linter.all false
set_option maxRecDepth 100000
set_option maxHeartbeats 1000000
namespace Lw
open PySem PySem.Spec PyProof.Rows L2 Mi
local macro_rules | `(tactic| walk_at "mem") => `(tactic| first | exact fun _ z => absurd z List.not_mem_nil | exact List.not_mem_nil | (intro i hi; simp only [List.mem_cons, List.not_mem_nil, or_false, false_or] at hi ⊢; omega) | (simp only [List.mem_cons, List.not_mem_nil, or_false, false_or, not_or]; omega))
local macro_rules | `(tactic| walk_at "get") => `(tactic| first | assumption | (apply Keep.get; assumption; walk_at "get"; walk_at "mem"))
local macro_rules | `(tactic| walk_at "keep") => `(tactic| first | assumption | exact Keep.refl | (apply Keep.step; assumption; walk_at "keep"; walk_at "mem"))
local macro_rules | `(tactic| walk_at "one") => `(tactic| (conv => whnf) <;> first
  | (apply br_t; rfl)
  | (apply br_f; rfl)
  | (apply rdO_i; walk_at "get")
  | (apply itm_i; first | rfl | assumption | exact getAt_end _ _)
  | (apply gtD_i; assumption)
  | (apply new_i; intro p h' e1 l1 l2 l3 k)
  | (apply put_i; walk_at "get"; intro h' e1 l1 k)
  | (apply iLst_i; first | rfl | exact intsOf_map _)
  | (apply chk_i; first | rfl | exact lenOk_le (by simp only [List.length_map, List.length_cons, List.length_append, List.length_take, List.length_nil, List.length_replicate, List.length_dropLast]; omega) | exact small_lt (by simp only [List.length_map, List.length_cons, List.length_append, List.length_take, List.length_nil, List.length_replicate, List.length_dropLast]; omega) | assumption | exact mulOk_r (by decide) | exact mulOk_l (by decide) | exact lenOk_le (by omega) | exact small_lt (by omega) | (simp; omega)))
local macro_rules | `(tactic| walk_at "go") => `(tactic| (repeat walk_at "one"); try (conv => whnf))
local macro_rules | `(tactic| walk_at "br") => `(tactic| (refine br_i (fun hc => ?_) (fun hc => ?_) <;> simp only [Bool.not_eq_true', Bool.not_eq_false', beq_iff_eq, beq_eq_false_iff_ne, ne_eq, decide_eq_true_eq, decide_eq_false_iff_not, bne_iff_ne, bne_eq_false_iff_eq] at hc) <;> first | (exfalso; omega) | walk_at "go")
theorem ie_ok : ∀ (n : Nat) (e : Ep) (p q m1 m2 : Nat) (f g : Tab) (h : Hh) (Q : Kd) (X : Ex), e.ht ≤ n → e.fit → DT h p f m1 → DT h q g m2 → (∀ h', Keep [] h h' → Q (e.ren (gd f) (gd g)).d h') → rn n i_law_in_expression [e.d, .ref p, .ref q] h Q X
  | 0, e, _, _, _, _, _, _, _, _, _, hn, _, _, _, _ => absurd hn (by have := ht_pos e; omega)
  | n + 1, e, p, q, m1, m2, f, g, h, Q, X, hn, hf, dp, dq, w => by
    have s1 := dp.lt
    have s2 := dq.lt
    refine u_law_in_expression ?_
    cases e with
    | nam x =>
      obtain ⟨kvs, e1, a1, _, _⟩ := dp
      walk_at "go"
      have := w h Keep.refl
      simp only [Ep.ren, Ep.d] at this
      rw [DT.gd a1]
      exact this
    | num z => walk_at "go"; exact w _ Keep.refl
    | inn => walk_at "go"; exact w _ Keep.refl
    | op o a b =>
      simp only [Ep.ht] at hn
      walk_at "go"
      iterate 4 (refine br_f (by cases o <;> rfl) ?_; walk_at "go")
      refine ie_ok n a p q m1 m2 f g _ _ _ (by omega) hf.1 dp dq fun h1 k1 => ?_
      walk_at "go"
      refine ie_ok n b p q m1 m2 f g _ _ _ (by omega) hf.2 (dp.mono k1 List.not_mem_nil) (dq.mono k1 List.not_mem_nil) fun h2 k2 => ?_
      walk_at "go"
      exact w _ (by walk_at "keep")
    | call x as =>
      simp only [Ep.ht] at hn
      have h3 : as.length ≤ 3 := hf.1
      obtain ⟨kvs, e1, a1, _, _⟩ := id dq
      walk_at "go"
      rename_i t h2 e2 g1 g2 g3 k2
      rw [ds_map]
      refine map_i Ep.d (fun a => (a.ren (gd f) (gd g)).d) as e2 (by omega) (fun x hx h4 K N k4 hK => ?_) fun h4 e4 k4 => ?_
      · have := hts_mem hx
        have k04 : Keep [t] h h4 := by walk_at "keep"
        walk_at "go"
        exact ie_ok n x p q m1 m2 f g _ _ _ (by omega) (fits_mem hf.2 hx) (dp.mono k04 (by walk_at "mem")) (dq.mono k04 (by walk_at "mem")) hK
      · walk_at "go"
        have := w h4 (by walk_at "keep")
        simp only [Ep.ren, Ep.d] at this
        rw [DT.gd a1]
        rw [rens_map, ds_map, List.map_map] at this
        exact this
theorem ib_ok : ∀ (n : Nat) (b : List St) (p q m1 m2 : Nat) (f g : Tab) (h : Hh) (Q : Kd) (X : Ex), St.bht b + 12 ≤ n → St.fits b → grs (St.ds b) < 10000000 → DT h p f m1 → DT h q g m2 → (∀ h', Keep [] h h' → Q (bD (St.rens (gd f) (gd g) b)) h') → rn n i_law_in_block [bD b, .ref p, .ref q] h Q X
  | 0, b, _, _, _, _, _, _, _, _, _, hn, _, _, _, _, _ => absurd hn (by omega)
  | n + 1, b, p, q, m1, m2, f, g, h, Q, X, hn, hf, hg, dp, dq, w => by
    have s1 := dp.lt
    have s2 := dq.lt
    refine u_law_in_block ?_
    have hlen := len_grs (St.ds b)
    rw [sds_len] at hlen
    unfold bD
    walk_at "go"
    rename_i t h1 e1 g1 g2 g3 k1
    refine loop_i (I := fun r σ h' => ∃ z1 z2 x4, b = z1 ++ z2 ∧ r = St.ds z2 ∧ σ = [some (.tup (St.ds b)), some (.ref p), some (.ref q), some (.ref t), x4] ∧ h'[t]? = some (.lst (St.ds (St.rens (gd f) (gd g) z1))) ∧ h1.length ≤ h'.length ∧ Keep [t] h h') ?_ ?_ _ _ _ ⟨[], b, _, rfl, rfl, rfl, e1, Nat.le_refl _, by walk_at "keep"⟩
    · rintro x r σ h2 K ⟨z1, z2, x4, ez, er, rfl, ep, l2, k2⟩ hK
      cases z2 with
      | nil => cases er
      | cons s z2 =>
        simp only [St.ds, List.cons.injEq] at er
        obtain ⟨rfl, rfl⟩ := er
        have ms : s ∈ b := by rw [ez]; simp
        have fs := sfits_mem hf ms
        have hs := bht_mem ms
        have gs := gr_mem ms
        have hl := congrArg List.length ez
        simp only [List.length_append, List.length_cons] at hl
        have pl2 := lt_of ep
        have hl8 : (St.ds (St.rens (gd f) (gd g) z1)).length = z1.length := by rw [sds_len, srens_map, List.length_map]
        have dp2 := dp.mono k2 (by walk_at "mem")
        have dq2 := dq.mono k2 (by walk_at "mem")
        have FIN : ∀ y4 h9, h9[t]? = some (.lst (St.ds (St.rens (gd f) (gd g) z1) ++ [(s.ren (gd f) (gd g)).d])) → h2.length ≤ h9.length → Keep [t] h2 h9 → K [some (.tup (St.ds b)), some (.ref p), some (.ref q), some (.ref t), y4] h9 := fun y4 h9 e9 l9 k9 =>
          hK _ _ ⟨z1 ++ [s], z2, _, by rw [ez]; simp, rfl, rfl, by rw [e9, srens_map, srens_map, List.map_append, sds_app]; rfl, by omega, by walk_at "keep"⟩
        obtain ⟨kp, ekp, akp, _, _⟩ := id dp2
        cases s with
        | var x e =>
          walk_at "go"
          refine ie_ok n e p q m1 m2 f g _ _ _ (by have := fs.2; omega) fs.1 dp2 dq2 fun h3 k3 => ?_
          have l3 := k3.len
          have ep3 := k3.get ep List.not_mem_nil
          walk_at "go"
          rename_i h9 e9 l9 k9
          rw [DT.gd akp] at e9
          exact FIN _ _ e9 (by omega) (by walk_at "keep")
        | set x e =>
          walk_at "go"
          refine ie_ok n e p q m1 m2 f g _ _ _ (by have := fs.2; omega) fs.1 dp2 dq2 fun h3 k3 => ?_
          have l3 := k3.len
          have ep3 := k3.get ep List.not_mem_nil
          walk_at "go"
          rename_i h9 e9 l9 k9
          rw [DT.gd akp] at e9
          exact FIN _ _ e9 (by omega) (by walk_at "keep")
        | ret e =>
          walk_at "go"
          refine ie_ok n e p q m1 m2 f g _ _ _ (by have := fs.2; omega) fs.1 dp2 dq2 fun h3 k3 => ?_
          have l3 := k3.len
          have ep3 := k3.get ep List.not_mem_nil
          walk_at "go"
          exact FIN _ _ (by assumption) (by omega) (by walk_at "keep")
        | out e =>
          walk_at "go"
          refine ie_ok n e p q m1 m2 f g _ _ _ (by have := fs.2; omega) fs.1 dp2 dq2 fun h3 k3 => ?_
          have l3 := k3.len
          have ep3 := k3.get ep List.not_mem_nil
          walk_at "go"
          exact FIN _ _ (by assumption) (by omega) (by walk_at "keep")
        | call x as =>
          walk_at "go"
          refine ie_ok n (.call x as) p q m1 m2 f g _ _ _ (by have := fs.2; omega) fs.1 dp2 dq2 fun h3 k3 => ?_
          have l3 := k3.len
          have ep3 := k3.get ep List.not_mem_nil
          walk_at "go"
          exact FIN _ _ (by assumption) (by omega) (by walk_at "keep")
        | hold b1 =>
          simp only [St.ht] at hs
          simp only [St.d, gr, grs] at gs
          walk_at "go"
          refine ib_ok n b1 p q m1 m2 f g _ _ _ (by omega) fs (by omega) dp2 dq2 fun h3 k3 => ?_
          have l3 := k3.len
          have ep3 := k3.get ep List.not_mem_nil
          walk_at "go"
          exact FIN _ _ (by assumption) (by omega) (by walk_at "keep")
        | whl e b1 =>
          simp only [St.ht] at hs
          simp only [St.d, gr, grs] at gs
          walk_at "go"
          refine ie_ok n e p q m1 m2 f g _ _ _ (by have := fs.1.2; omega) fs.1.1 dp2 dq2 fun h3 k3 => ?_
          have l3 := k3.len
          walk_at "go"
          refine ib_ok n b1 p q m1 m2 f g _ _ _ (by omega) fs.2 (by omega) (dp2.mono k3 List.not_mem_nil) (dq2.mono k3 List.not_mem_nil) fun h4 k4 => ?_
          have l4 := k4.len
          have ep4 := k4.get (k3.get ep List.not_mem_nil) List.not_mem_nil
          walk_at "go"
          exact FIN _ _ (by assumption) (by omega) (by walk_at "keep")
        | ifs e b1 b2 =>
          simp only [St.ht] at hs
          simp only [St.d, gr, grs] at gs
          walk_at "go"
          refine ie_ok n e p q m1 m2 f g _ _ _ (by have := fs.1.2; omega) fs.1.1 dp2 dq2 fun h3 k3 => ?_
          have l3 := k3.len
          walk_at "go"
          refine ib_ok n b1 p q m1 m2 f g _ _ _ (by omega) fs.2.1 (by omega) (dp2.mono k3 List.not_mem_nil) (dq2.mono k3 List.not_mem_nil) fun h4 k4 => ?_
          have l4 := k4.len
          walk_at "go"
          refine ib_ok n b2 p q m1 m2 f g _ _ _ (by omega) fs.2.2 (by omega) ((dp2.mono k3 List.not_mem_nil).mono k4 List.not_mem_nil) ((dq2.mono k3 List.not_mem_nil).mono k4 List.not_mem_nil) fun h5 k5 => ?_
          have l5 := k5.len
          have ep5 := k5.get (k4.get (k3.get ep List.not_mem_nil) List.not_mem_nil) List.not_mem_nil
          walk_at "go"
          exact FIN _ _ (by assumption) (by omega) (by walk_at "keep")
    · rintro σ h2 ⟨z1, z2, x4, ez, er, rfl, ep, l2, k2⟩
      cases z2 with
      | cons s z2 => cases er
      | nil =>
        rw [List.append_nil] at ez
        subst ez
        walk_at "go"
        exact w _ (by walk_at "keep")
theorem lv_ok : ∀ (n : Nat) (b : List St) (h : Hh) (Q : Kd) (X : Ex), St.bht b + 1 ≤ n → St.fits b → grs (St.ds b) < 10000000 → (∀ p h', h'[p]? = some (.lst ((St.bvars b).map .str)) → h.length ≤ p → Keep [] h h' → Q (.ref p) h') → rn n i_law_vars [bD b] h Q X
  | 0, b, _, _, _, hn, _, _, _ => absurd hn (by omega)
  | n + 1, b, h, Q, X, hn, hf, hg, w => by
    refine u_law_vars ?_
    unfold bD
    walk_at "go"
    rename_i t h1 e1 g1 g2 g3 k1
    refine loop_i (I := fun r σ h' => ∃ z1 z2 p x2, b = z1 ++ z2 ∧ r = St.ds z2 ∧ σ = [some (.tup (St.ds b)), some (.ref p), x2] ∧ h'[p]? = some (.lst ((St.bvars z1).map .str)) ∧ h.length ≤ p ∧ Keep [] h h') ?_ ?_ _ _ _ ⟨[], b, t, _, rfl, rfl, rfl, e1, g1, by walk_at "keep"⟩
    · rintro x r σ h2 K ⟨z1, z2, p, x2, ez, er, rfl, ep, gp, k2⟩ hK
      cases z2 with
      | nil => cases er
      | cons s z2 =>
        simp only [St.ds, List.cons.injEq] at er
        obtain ⟨rfl, rfl⟩ := er
        have ms : s ∈ b := by rw [ez]; simp
        have fs := sfits_mem hf ms
        have hs := bht_mem ms
        have gs := gr_mem ms
        have lg := bvars_len b
        have lb : (St.bvars b).length = (St.bvars z1).length + (s.vars.length + (St.bvars z2).length) := by rw [ez, bvars_app]; simp [St.bvars]
        have pl2 := lt_of ep
        have l02 := k2.len
        have FIN : ∀ q y2 h9, h9[q]? = some (.lst ((St.bvars z1 ++ s.vars).map .str)) → h.length ≤ q → Keep [] h h9 → K [some (.tup (St.ds b)), some (.ref q), y2] h9 := fun q y2 h9 e9 l9 k9 =>
          hK _ _ ⟨z1 ++ [s], z2, q, _, by rw [ez]; simp, rfl, rfl, by rw [e9, bvars_app]; simp [St.bvars], l9, k9⟩
        cases s with
        | var x e =>
          simp only [St.vars, List.length_singleton] at lb
          walk_at "go"
          rename_i h9 e9 l9 k9
          exact FIN p _ _ (by rw [e9, List.map_append]; rfl) gp (by walk_at "keep")
        | set x e => walk_at "go"; exact FIN p _ _ (by rw [ep]; simp [St.vars]) gp k2
        | call x as => walk_at "go"; exact FIN p _ _ (by rw [ep]; simp [St.vars]) gp k2
        | ret e => walk_at "go"; exact FIN p _ _ (by rw [ep]; simp [St.vars]) gp k2
        | out e => walk_at "go"; exact FIN p _ _ (by rw [ep]; simp [St.vars]) gp k2
        | hold b1 =>
          simp only [St.ht] at hs
          simp only [St.d, gr, grs] at gs
          simp only [St.vars] at lb
          walk_at "go"
          refine lv_ok n b1 _ _ _ (by omega) fs (by omega) fun q h3 e3 g3 k3 => ?_
          have l3 := k3.len
          have ep3 := k3.get ep List.not_mem_nil
          walk_at "go"
          rename_i r h9 e9 g4 g5 g6 k9
          exact FIN r _ _ (by rw [e9, List.map_append]; rfl) (by omega) (by walk_at "keep")
        | whl e b1 =>
          simp only [St.ht] at hs
          simp only [St.d, gr, grs] at gs
          simp only [St.vars] at lb
          walk_at "go"
          refine lv_ok n b1 _ _ _ (by omega) fs.2 (by omega) fun q h3 e3 g3 k3 => ?_
          have l3 := k3.len
          have ep3 := k3.get ep List.not_mem_nil
          walk_at "go"
          rename_i r h9 e9 g4 g5 g6 k9
          exact FIN r _ _ (by rw [e9, List.map_append]; rfl) (by omega) (by walk_at "keep")
        | ifs e b1 b2 =>
          simp only [St.ht] at hs
          simp only [St.d, gr, grs] at gs
          simp only [St.vars, List.length_append] at lb
          walk_at "go"
          refine lv_ok n b1 _ _ _ (by omega) fs.2.1 (by omega) fun q h3 e3 g3 k3 => ?_
          have l3 := k3.len
          have ep3 := k3.get ep List.not_mem_nil
          walk_at "go"
          rename_i r h9 e9 g4 g5 g6 k9
          refine lv_ok n b2 _ _ _ (by omega) fs.2.2 (by omega) fun q2 h10 e10 g7 k10 => ?_
          have l10 := k10.len
          have e9' := k10.get e9 List.not_mem_nil
          walk_at "go"
          rename_i r2 h11 e11 g8 g9 g10 k11
          exact FIN r2 _ _ (by rw [e11]; simp [St.vars]) (by omega) (by walk_at "keep")
    · rintro σ h2 ⟨z1, z2, p, x2, ez, er, rfl, ep, gp, k2⟩
      cases z2 with
      | cons s z2 => cases er
      | nil =>
        rw [List.append_nil] at ez
        subst ez
        walk_at "go"
        exact w _ _ ep gp k2
end Lw

set_option Elab.async false
set_option linter.all false
set_option maxRecDepth 100000
set_option maxHeartbeats 1000000
namespace Lw
open PySem PySem.Spec PyProof.Rows L2 Mi
local macro_rules | `(tactic| walk_at "mem") => `(tactic| first | exact fun _ z => absurd z List.not_mem_nil | exact List.not_mem_nil | (intro i hi; simp only [List.mem_cons, List.not_mem_nil, or_false, false_or] at hi ⊢; omega) | (simp only [List.mem_cons, List.not_mem_nil, or_false, false_or, not_or]; omega))
local macro_rules | `(tactic| walk_at "get") => `(tactic| first | assumption | (apply Keep.get; assumption; walk_at "get"; walk_at "mem"))
local macro_rules | `(tactic| walk_at "keep") => `(tactic| first | assumption | exact Keep.refl | (apply Keep.step; assumption; walk_at "keep"; walk_at "mem"))
local macro_rules | `(tactic| walk_at "one") => `(tactic| (conv => whnf) <;> first
  | (apply br_t; rfl)
  | (apply br_f; rfl)
  | (apply rdO_i; walk_at "get")
  | (apply itm_i; first | rfl | assumption | exact getAt_end _ _)
  | (apply gtD_i; assumption)
  | (apply new_i; intro p h' e1 l1 l2 l3 k)
  | (apply put_i; walk_at "get"; intro h' e1 l1 k)
  | (apply iLst_i; first | rfl | exact intsOf_map _)
  | (apply chk_i; first | rfl | exact lenOk_le (by simp only [List.length_map, List.length_cons, List.length_append, List.length_take, List.length_nil, List.length_replicate, List.length_dropLast]; omega) | exact small_lt (by simp only [List.length_map, List.length_cons, List.length_append, List.length_take, List.length_nil, List.length_replicate, List.length_dropLast]; omega) | assumption | exact mulOk_r (by decide) | exact mulOk_l (by decide) | exact lenOk_le (by omega) | exact small_lt (by omega) | (simp; omega)))
local macro_rules | `(tactic| walk_at "go") => `(tactic| (repeat walk_at "one"); try (conv => whnf))
local macro_rules | `(tactic| walk_at "br") => `(tactic| (refine br_i (fun hc => ?_) (fun hc => ?_) <;> simp only [Bool.not_eq_true', Bool.not_eq_false', beq_iff_eq, beq_eq_false_iff_ne, ne_eq, decide_eq_true_eq, decide_eq_false_iff_not, bne_iff_ne, bne_eq_false_iff_eq] at hc) <;> first | (exfalso; omega) | walk_at "go")
def kS : D → Bool
  | .non => true | .bl _ => true | .int _ => true | .str _ => true | .tup _ => true | _ => false
abbrev bad (X : Ex) (z : Str) (h : Hh) : Prop := X w_BadStep [(w_word, .str z)] h
theorem os_ok {n : Nat} {z s : Str} {h : Hh} {Q : Kd} {X : Ex} (hn : 1 ≤ n) (w : Q (.bl (z.cps.toList.all (sgIn s))) h) : rn n i_only_signs [.str z, .str s] h Q X := by
  cases n with
  | zero => omega
  | succ n =>
    refine u_only_signs ?_
    walk_at "go"
    refine loop_i (I := fun r σ h' => ∃ (z1 z2 : List Nat) (x2 : Option D), z.cps.toList = z1 ++ z2 ∧ r = z2.map (fun c => D.str ⟨#[c]⟩) ∧ σ = [some (.str z), some (.str s), x2] ∧ h' = h ∧ z1.all (sgIn s) = true) ?_ ?_ _ _ _ ⟨[], z.cps.toList, _, rfl, rfl, rfl, rfl, rfl⟩
    · rintro x r σ h' K ⟨z1, z2, x2, ez, er, rfl, rfl, ok⟩ hK
      cases z2 with
      | nil => cases er
      | cons c z2 =>
        simp only [List.map_cons, List.cons.injEq] at er
        obtain ⟨rfl, rfl⟩ := er
        walk_at "go"
        refine br_i (fun hc => ?_) (fun hc => ?_)
        · have hc' : sgIn s c = false := by simpa using hc
          walk_at "go"
          have e : z.cps.toList.all (sgIn s) = false := by
            rw [ez, List.all_append, List.all_cons, hc']
            simp
          rw [e] at w
          exact w
        · have hc' : sgIn s c = true := by simpa using hc
          exact hK _ _ ⟨z1 ++ [c], z2, _, by rw [ez]; simp, rfl, rfl, rfl, by rw [List.all_append, ok]; simp [hc']⟩
    · rintro σ h' ⟨z1, z2, x2, ez, er, rfl, rfl, ok⟩
      have : z2 = [] := List.map_eq_nil_iff.mp er.symm
      subst this
      rw [List.append_nil] at ez
      walk_at "go"
      rw [ez, ok] at w
      exact w
def small : Str := w_abcdefghijklmnopqrstuvwxyz
def figs : Str := w_0123456789
def kept : List D := [(.str w_cell), (.str w_fun), (.str w_on), (.str w_main), (.str w_var), (.str w_if), (.str w_else), (.str w_while), (.str w_hold), (.str w_return), (.str w_out), (.str w_in)]
def isNm : D → Bool
  | .str z => decide (1 ≤ z.length) && (decide (z.length ≤ 8) && (!inFlat (.str z) kept && (match z.cps.toList with | c :: _ => sgIn small c && z.cps.toList.all (sgIn (small ++ figs)) | [] => false)))
  | _ => false
theorem in_ok {n : Nat} {d : D} {h : Hh} {Q : Kd} {X : Ex} (hn : 2 ≤ n) (hd : kS d = true) (hz : ∀ z, d = .str z → z.length ≤ 100) (w : Q (.bl (isNm d)) h) : rn n i_is_name [d] h Q X := by
  cases n with
  | zero => omega
  | succ n =>
    refine u_is_name ?_
    cases d <;> first | exact nc hd | skip
    case str z =>
      have hl := hz z rfl
      walk_at "go"
      have E : isNm (.str z) = (decide (1 ≤ z.length) && (decide (z.length ≤ 8) && (!inFlat (.str z) kept && (match z.cps.toList with | c :: _ => sgIn small c && z.cps.toList.all (sgIn (small ++ figs)) | [] => false)))) := rfl
      refine br_i (fun hc => ?_) (fun hc => ?_)
      · have c1 : 1 ≤ z.length := by have := of_decide_eq_true hc; omega
        rw [decide_eq_true c1, Bool.true_and] at E
        walk_at "go"
        refine br_i (fun hc2 => ?_) (fun hc2 => ?_)
        · have c2 : ¬ z.length ≤ 8 := by
            have : decide (((z.length : Nat) : Int) ≤ 8) = false := by simpa using hc2
            have := of_decide_eq_false this
            omega
          rw [decide_eq_false c2, Bool.false_and] at E
          walk_at "go"
          rw [E] at w
          exact w
        · have c2 : z.length ≤ 8 := by
            have : decide (((z.length : Nat) : Int) ≤ 8) = true := by simpa using hc2
            have := of_decide_eq_true this
            omega
          rw [decide_eq_true c2, Bool.true_and] at E
          walk_at "go"
          refine br_i (fun hc3 => ?_) (fun hc3 => ?_)
          · have c3 : inFlat (.str z) kept = true := hc3
            rw [c3] at E
            walk_at "go"
            rw [E] at w
            exact w
          · have c3 : inFlat (.str z) kept = false := hc3
            rw [c3, Bool.not_false, Bool.true_and] at E
            obtain ⟨⟨l⟩⟩ := z
            cases l with
            | nil => exact absurd c1 (by decide)
            | cons c l =>
              conv => whnf
              refine sgn_i (c := c) (by unfold ixAt; rw [if_pos (by decide), if_pos (by omega)]; rfl) (by rw [sizeLine_eq]; omega) ?_
              have E2 : isNm (.str ⟨⟨c :: l⟩⟩) = (sgIn small c && (c :: l).all (sgIn (small ++ figs))) := E
              conv => whnf
              refine br_i (fun hc4 => ?_) (fun hc4 => ?_)
              · have c4 : sgIn small c = true := hc4
                rw [c4, Bool.true_and] at E2
                walk_at "go"
                refine os_ok (z := ⟨⟨c :: l⟩⟩) (s := small ++ figs) (by omega) ?_
                rw [E2] at w
                exact w
              · have c4 : sgIn small c = false := hc4
                rw [c4, Bool.false_and] at E2
                rw [E2] at w
                exact w
      · have c1 : ¬ 1 ≤ z.length := by have := of_decide_eq_false hc; omega
        rw [decide_eq_false c1, Bool.false_and] at E
        walk_at "go"
        rw [E] at w
        exact w
    all_goals
      walk_at "go"
      exact w
theorem str_len (a b : Str) : (a ++ b).length = a.length + b.length := by
  show (a.cps ++ b.cps).size = _
  simp [Str.length]
theorem sm_ok {k : Nat} (h1 : 97 ≤ k) (h2 : k ≤ 122) : sgIn small k = true := by
  have : ∀ j : Fin 123, 97 ≤ j.val → sgIn small j.val = true := by decide
  exact this ⟨k, by omega⟩ h1
theorem sf_ok {k : Nat} (h : (97 ≤ k ∧ k ≤ 122) ∨ (48 ≤ k ∧ k ≤ 57)) : sgIn (small ++ figs) k = true := by
  have : ∀ j : Fin 123, (97 ≤ j.val ∨ (48 ≤ j.val ∧ j.val ≤ 57)) → sgIn (small ++ figs) j.val = true := by decide
  rcases h with ⟨h1, h2⟩ | ⟨h1, h2⟩
  · exact this ⟨k, by omega⟩ (.inl h1)
  · exact this ⟨k, by omega⟩ (.inr ⟨h1, h2⟩)
theorem Nm.len8 {x : Str} {k : Nat} (h : Nm x k) (hk : k < 100000) : 1 ≤ x.length ∧ x.length ≤ 8 := by
  obtain ⟨ch, t, h1, h2, ht, rfl⟩ := h
  have hL : (st k).length ≤ 5 := toString_length_le (by omega) (by decide) (by omega)
  have hC : (⟨#[ch]⟩ : Str).length = 1 := rfl
  have ht2 : t.length ≤ 2 := by rcases ht with rfl | rfl | rfl <;> decide
  rw [str_len, str_len]
  omega
theorem kept_no {x : Str} {k : Nat} (h : Nm x k) : inFlat (.str x) kept = false := by
  obtain ⟨a, c, r, e, h1, h2⟩ := h.second
  have key : ∀ w : Str, (∀ c, w.cps.toList[1]? = some c → 57 < c) → strEq w x = false := fun w hw => by
    cases hh : strEq w x with
    | false => rfl
    | true =>
      rw [strEq_iff.mp hh] at hw
      have := hw c (by rw [e]; rfl)
      omega
  unfold inFlat kept
  rw [List.any_eq_false]
  intro y hy
  simp only [List.mem_cons, List.not_mem_nil, or_false] at hy
  rcases hy with rfl | rfl | rfl | rfl | rfl | rfl | rfl | rfl | rfl | rfl | rfl | rfl <;>
    (show ¬ strEq _ x = true; rw [key _ (fun c e => by cases e; decide)]; exact Bool.false_ne_true)
theorem nm_ok {x : Str} {k : Nat} (h : Nm x k) (hk : k < 100000) : isNm (.str x) = true := by
  obtain ⟨l1, l2⟩ := h.len8 hk
  have kn := kept_no h
  obtain ⟨ch, t, h1, h2, ht, rfl⟩ := h
  have e : ((⟨#[ch]⟩ : Str) ++ st k ++ t).cps.toList = ch :: ((st k).cps.toList ++ t.cps.toList) := by
    rw [codes_app, codes_app]
    rfl
  show (decide _ && (decide _ && (!inFlat _ kept && (match ((⟨#[ch]⟩ : Str) ++ st k ++ t).cps.toList with | c :: _ => sgIn small c && ((⟨#[ch]⟩ : Str) ++ st k ++ t).cps.toList.all (sgIn (small ++ figs)) | [] => false)))) = true
  rw [decide_eq_true l1, decide_eq_true l2, kn, e]
  show (true && (true && (!false && (sgIn small ch && (ch :: ((st k).cps.toList ++ t.cps.toList)).all (sgIn (small ++ figs)))))) = true
  rw [sm_ok h1 h2, List.all_cons, sf_ok (.inl ⟨h1, h2⟩), List.all_append]
  have a1 : (st k).cps.toList.all (sgIn (small ++ figs)) = true := List.all_eq_true.mpr fun c hc => sf_ok (.inr (st_digit hc))
  have a2 : t.cps.toList.all (sgIn (small ++ figs)) = true := by rcases ht with rfl | rfl | rfl <;> decide
  rw [a1, a2]
  rfl
/-- names of funs: made before -/
def told (d : D) : D := .tup [.str w_told, d]
def refused (z : Str) : D := .tup [.str w_refused, .str z]
theorem bad_ok {R : Es} {X : Ex} {z : Str} {h : Hh} (w : R.rt (refused z) h) : bad (exT [w_BadStep] [] (.tup [.str w_refused, .fld w_word]) R X) z h := by
  show exT [w_BadStep] [] (.tup [.str w_refused, .fld w_word]) R X w_BadStep [(w_word, .str z)] h
  have e : HE.val [(w_word, D.str z)] (.tup [.str w_refused, .fld w_word]) = some (refused z) := rfl
  unfold exT
  rw [if_pos (by decide), e]
  exact w
mutual
theorem ren_id : ∀ e : Ep, e.ren (gd nul) (gd nul) = e
  | .num _ => rfl
  | .nam _ => rfl
  | .inn => rfl
  | .op o a b => by show Ep.op o (a.ren _ _) (b.ren _ _) = _; rw [ren_id a, ren_id b]
  | .call x as => by show Ep.call x (Ep.rens _ _ as) = _; rw [rens_id as]
theorem rens_id : ∀ as : List Ep, Ep.rens (gd nul) (gd nul) as = as
  | [] => rfl
  | a :: as => by show a.ren _ _ :: Ep.rens _ _ as = _; rw [ren_id a, rens_id as]
end
mutual
theorem sren_id : ∀ s : St, s.ren (gd nul) (gd nul) = s
  | .var x e => by show St.var x (e.ren _ _) = _; rw [ren_id e]
  | .set x e => by show St.set x (e.ren _ _) = _; rw [ren_id e]
  | .call x as => by show St.call x (Ep.rens _ _ as) = _; rw [rens_id as]
  | .hold b => by show St.hold (St.rens _ _ b) = _; rw [srens_id b]
  | .whl e b => by show St.whl (e.ren _ _) (St.rens _ _ b) = _; rw [ren_id e, srens_id b]
  | .ifs e b c => by show St.ifs (e.ren _ _) (St.rens _ _ b) (St.rens _ _ c) = _; rw [ren_id e, srens_id b, srens_id c]
  | .ret e => by show St.ret (e.ren _ _) = _; rw [ren_id e]
  | .out e => by show St.out (e.ren _ _) = _; rw [ren_id e]
theorem srens_id : ∀ b : List St, St.rens (gd nul) (gd nul) b = b
  | [] => rfl
  | s :: b => by show s.ren _ _ :: St.rens _ _ b = _; rw [sren_id s, srens_id b]
end
theorem dt_nil {h : Hh} {p : Nat} (e : h[p]? = some (.dic [])) : DT h p nul 0 := ⟨[], e, fun _ => rfl, List.nodup_nil, Nat.le_refl _⟩
theorem dt_one {h : Hh} {p : Nat} {x y : Str} (e : h[p]? = some (.dic [(x, .str y)])) : DT h p (upF nul x y) 1 := ⟨[(x, .str y)], e, fun z => by
  unfold upF
  by_cases hz : z = x
  · rw [if_pos hz, lk_hit hz.symm]; rfl
  · rw [if_neg hz, lk_miss (fun q => hz q.symm)]; rfl, by simp, Nat.le_refl _⟩

end Lw

set_option Elab.async false
set_option linter.all false
set_option maxRecDepth 100000
set_option maxHeartbeats 1000000
namespace Lw
open PySem PySem.Spec PyProof.Rows L2 Mi
local macro_rules | `(tactic| walk_at "mem") => `(tactic| first | exact fun _ z => absurd z List.not_mem_nil | exact List.not_mem_nil | (intro i hi; simp only [List.mem_cons, List.not_mem_nil, or_false, false_or] at hi ⊢; omega) | (simp only [List.mem_cons, List.not_mem_nil, or_false, false_or, not_or]; omega))
local macro_rules | `(tactic| walk_at "get") => `(tactic| first | assumption | (apply Keep.get; assumption; walk_at "get"; walk_at "mem"))
local macro_rules | `(tactic| walk_at "keep") => `(tactic| first | assumption | exact Keep.refl | (apply Keep.step; assumption; walk_at "keep"; walk_at "mem"))
local macro_rules | `(tactic| walk_at "one") => `(tactic| (conv => whnf) <;> first
  | (apply br_t; rfl)
  | (apply br_f; rfl)
  | (apply rdO_i; walk_at "get")
  | (apply itm_i; first | rfl | assumption | exact getAt_end _ _)
  | (apply gtD_i; assumption)
  | (apply new_i; intro p h' e1 l1 l2 l3 k)
  | (apply put_i; walk_at "get"; intro h' e1 l1 k)
  | (apply iLst_i; first | rfl | exact intsOf_map _)
  | (apply chk_i; first | rfl | exact lenOk_le (by simp only [List.length_map, List.length_cons, List.length_append, List.length_take, List.length_nil, List.length_replicate, List.length_dropLast]; omega) | exact small_lt (by simp only [List.length_map, List.length_cons, List.length_append, List.length_take, List.length_nil, List.length_replicate, List.length_dropLast]; omega) | assumption | exact mulOk_r (by decide) | exact mulOk_l (by decide) | exact lenOk_le (by omega) | exact small_lt (by omega) | (simp; omega)))
local macro_rules | `(tactic| walk_at "go") => `(tactic| (repeat walk_at "one"); try (conv => whnf))
local macro_rules | `(tactic| walk_at "br") => `(tactic| (refine br_i (fun hc => ?_) (fun hc => ?_) <;> simp only [Bool.not_eq_true', Bool.not_eq_false', beq_iff_eq, beq_eq_false_iff_ne, ne_eq, decide_eq_true_eq, decide_eq_false_iff_not, bne_iff_ne, bne_eq_false_iff_eq] at hc) <;> first | (exfalso; omega) | walk_at "go")

theorem inFlat_strs {z : Str} : ∀ {L : List Str}, inFlat (.str z) (L.map .str) = decide (z ∈ L)
  | [] => by simp [inFlat]
  | x :: L => by
    have ih := @inFlat_strs z L
    unfold inFlat at ih ⊢
    rw [List.map_cons, List.any_cons, ih]
    show (strEq x z || _) = _
    rw [strEq_dec]
    by_cases e : x = z
    · subst e; simp
    · have : ¬ z = x := fun q => e q.symm
      simp [e, this]
theorem all_fl (L : List Str) : (L.map D.str).all isFl = true := by
  rw [List.all_map]
  exact List.all_eq_true.mpr fun _ _ => rfl
/-- names and levels are small -/
structure Tr.nm (t : Tr) : Prop where
  c : ∀ c ∈ t.cells, c.1.length ≤ 100
  f : ∀ f ∈ t.funs, f.1.length ≤ 100
  o : ∀ o ∈ t.ons, (0 : Int) ≤ o.1 ∧ o.1 ≤ 9
  lc : t.cells.length ≤ 3
  lf : t.funs.length ≤ 4
  lo : t.ons.length ≤ 4
theorem st_one {i : Int} (h0 : 0 ≤ i) (h1 : i ≤ 9) : (st i).length = 1 := by
  obtain ⟨m, rfl⟩ : ∃ m : Nat, i = m := ⟨i.toNat, by omega⟩
  have h : m < 10 := by omega
  have e : ∀ m, m < 10 → (st (m : Nat)).length = 1 := by decide
  exact e m h
def pnC (c : Str × Int) : Str := w_cell_ ++ c.1
def pnF (f : Str × List Str × List St) : Str := w_fun_ ++ f.1
def pnO (o : Int × List St) : Str := w_on_ ++ st o.1
def pnames (t : Tr) : List Str := t.cells.map pnC ++ t.funs.map pnF ++ t.ons.map pnO ++ [w_main]
theorem pnm_ok {n : Nat} {t : Tr} {h : Hh} {Q : Kd} {X : Ex} (hn : 1 ≤ n) (o : t.nm) (w : ∀ h', Keep [] h h' → Q (.tup ((pnames t).map .str)) h') : rn n i_part_names [t.d] h Q X := by
  cases n with
  | zero => omega
  | succ n =>
    obtain ⟨oc, of, oo, lc, lf, lo⟩ := o
    have w1 : w_cell_.length = 5 := rfl
    have w2 : w_fun_.length = 4 := rfl
    have w3 : w_on_.length = 3 := rfl
    refine u_part_names ?_
    unfold Tr.d
    walk_at "go"
    rename_i p h1 e1 g1 g2 g3 k1
    refine map_i cD (fun c => .str (pnC c)) t.cells e1 (by omega) (fun c mc h2 K N k2 hK => ?_) fun h2 e2 k2 => ?_
    · have := oc c mc
      unfold cD
      walk_at "go"
      exact hK _ Keep.refl
    have g0 := lt_of e2
    walk_at "go"
    rename_i q h3 e3 g4 g5 g6 k3
    refine map_i fuD (fun c => .str (pnF c)) t.funs e3 (by omega) (fun c mc h4 K N k4 hK => ?_) fun h4 e4 k4 => ?_
    · have := of c mc
      unfold fuD
      walk_at "go"
      exact hK _ Keep.refl
    have e24 : h4[p]? = some (.lst (t.cells.map fun c => .str (pnC c))) := by walk_at "get"
    have z1 : (t.cells.map fun c => D.str (pnC c)).length = t.cells.length := List.length_map ..
    have z2 : (t.funs.map fun c => D.str (pnF c)).length = t.funs.length := List.length_map ..
    have z3 : (t.ons.map fun c => D.str (pnO c)).length = t.ons.length := List.length_map ..
    have g7 := lt_of e24
    have g8 := lt_of e4
    walk_at "go"
    rename_i r h5 e5 g9 g10 g11 k5 s h6 e6 g12 g13 g14 k6
    refine map_i oD (fun c => .str (pnO c)) t.ons e6 (by omega) (fun c mc h7 K N k7 hK => ?_) fun h7 e7 k7 => ?_
    · obtain ⟨q1, q2⟩ := oo c mc
      have := st_one q1 q2
      unfold oD
      walk_at "go"
      refine chk_i (lenOk_le (by show w_on_.length + (st c.1).length ≤ _; omega)) ?_
      exact hK _ Keep.refl
    have e57 : h7[r]? = some (.lst (t.cells.map (fun c => D.str (pnC c)) ++ t.funs.map fun c => .str (pnF c))) := by walk_at "get"
    have g15 := lt_of e57
    walk_at "go"
    have e : (pnames t).map D.str = List.map (fun c => D.str (pnC c)) t.cells ++ List.map (fun c => D.str (pnF c)) t.funs ++ List.map (fun c => D.str (pnO c)) t.ons ++ [D.str w_main] := by simp [pnames, Function.comp_def]
    rw [← e]
    exact w _ (by walk_at "keep")
theorem hd_of (a b : Str) (c : Nat) (r : List Nat) (e : a.cps.toList = c :: r) : (a ++ b).cps.toList.head? = some c := by
  rw [codes_app, e]
  rfl
theorem pnC_hd (c : Str × Int) : (pnC c).cps.toList.head? = some 99 := hd_of w_cell_ c.1 _ _ rfl
theorem pnF_hd (c : Str × List Str × List St) : (pnF c).cps.toList.head? = some 102 := hd_of w_fun_ c.1 _ _ rfl
theorem pnO_hd (c : Int × List St) : (pnO c).cps.toList.head? = some 111 := hd_of w_on_ (st c.1) _ _ rfl
theorem pnM_hd : w_main.cps.toList.head? = some 109 := rfl
theorem nodup_map2 {α β γ : Type} {f : α → β} {g : α → γ} {xs : List α} (h : (xs.map g).Nodup) (i : ∀ a ∈ xs, ∀ b ∈ xs, f a = f b → g a = g b) : (xs.map f).Nodup := by
  unfold List.Nodup at h ⊢
  rw [List.pairwise_map] at h ⊢
  exact h.imp_of_mem fun ha hb hab e => hab (i _ ha _ hb e)
/-- parts have names of their own -/
structure Tr.ap (t : Tr) : Prop where
  c : (t.cells.map (·.1)).Nodup
  f : (t.funs.map (·.1)).Nodup
  o : (t.ons.map (·.1)).Nodup
theorem st_injI {i j : Int} (h0 : 0 ≤ i) (h1 : 0 ≤ j) (e : st i = st j) : i = j := by
  obtain ⟨a, rfl⟩ : ∃ a : Nat, i = a := ⟨i.toNat, by omega⟩
  obtain ⟨b, rfl⟩ : ∃ b : Nat, j = b := ⟨j.toNat, by omega⟩
  rw [st_inj e]
theorem pn_nodup {t : Tr} (o : t.nm) (a : t.ap) : (pnames t).Nodup := by
  have H : ∀ (x : Str) (c d : Nat), x.cps.toList.head? = some c → x.cps.toList.head? = some d → c ≠ d → False := fun x c d e1 e2 n => by
    rw [e1] at e2
    exact n (Option.some.inj e2)
  unfold pnames
  refine nodup_app (nodup_app (nodup_app ?_ ?_ ?_) ?_ ?_) (by simp) ?_
  · exact nodup_map2 a.c fun x _ y _ e => str_app_inj e
  · exact nodup_map2 a.f fun x _ y _ e => str_app_inj e
  · intro x m m2
    obtain ⟨c, _, rfl⟩ := List.mem_map.mp m
    obtain ⟨f, _, e⟩ := List.mem_map.mp m2
    exact H _ 99 102 (pnC_hd c) (e ▸ pnF_hd f) (by decide)
  · exact nodup_map2 a.o fun x hx y hy e => st_injI (o.o x hx).1 (o.o y hy).1 (str_app_inj e)
  · intro x m m2
    obtain ⟨f, _, e⟩ := List.mem_map.mp m2
    rcases List.mem_append.mp m with m | m
    · obtain ⟨c, _, rfl⟩ := List.mem_map.mp m
      exact H _ 99 111 (pnC_hd c) (e ▸ pnO_hd f) (by decide)
    · obtain ⟨c, _, rfl⟩ := List.mem_map.mp m
      exact H _ 102 111 (pnF_hd c) (e ▸ pnO_hd f) (by decide)
  · intro x m m2
    obtain rfl := List.mem_singleton.mp m2
    rcases List.mem_append.mp m with m | m
    · rcases List.mem_append.mp m with m | m
      · obtain ⟨c, _, e⟩ := List.mem_map.mp m
        exact H _ 99 109 (e ▸ pnC_hd c) pnM_hd (by decide)
      · obtain ⟨c, _, e⟩ := List.mem_map.mp m
        exact H _ 102 109 (e ▸ pnF_hd c) pnM_hd (by decide)
    · obtain ⟨c, _, e⟩ := List.mem_map.mp m
      exact H _ 111 109 (e ▸ pnO_hd c) pnM_hd (by decide)
theorem nodup_at {xs : List Str} (h : xs.Nodup) {i j : Nat} {x : Str} (a : xs[i]? = some x) (b : xs[j]? = some x) : i = j := by
  obtain ⟨hi, ei⟩ := List.getElem?_eq_some_iff.mp a
  obtain ⟨hj, ej⟩ := List.getElem?_eq_some_iff.mp b
  rcases Nat.lt_trichotomy i j with q | q | q
  · exact absurd (ei.trans ej.symm) (List.pairwise_iff_getElem.mp h i j hi hj q)
  · exact q
  · exact absurd (ej.trans ei.symm) (List.pairwise_iff_getElem.mp h j i hj hi q)
theorem pno_ok {n : Nat} {t : Tr} {d : D} {h : Hh} {Q : Kd} {X : Ex} (hn : 2 ≤ n) (o : t.nm) (a : t.ap) (hd : kS d = true)
    (w1 : ∀ z j h', d = .str z → (pnames t)[j]? = some z → Keep [] h h' → Q (.int (j : Nat)) h') (w2 : ∀ h', (∀ z, d = .str z → z ∉ pnames t) → Keep [] h h' → Q (.int (-1)) h') : rn n i_part_number [t.d, d] h Q X := by
  cases n with
  | zero => omega
  | succ n =>
    refine u_part_number ?_
    walk_at "go"
    refine pnm_ok (by omega) o fun h1 k1 => ?_
    generalize t.d = td
    cases d <;> first | exact nc hd | skip
    case str z =>
      generalize hL : (pnames t).map D.str = L
      walk_at "go"
      refine chk_i (by rw [← hL]; show (true && _) = true; rw [all_fl]; rfl) ?_
      conv => whnf
      refine br_i (fun hc => ?_) (fun hc => ?_)
      · have hc' : inFlat (.str z) L = true := hc
        rw [← hL, inFlat_strs] at hc'
        have hm : z ∈ pnames t := of_decide_eq_true hc'
        obtain ⟨j, ej⟩ := List.getElem?_of_mem hm
        have W := w1 z j h1 rfl ej k1
        walk_at "go"
        refine idx_i (pnames t) j hL.symm ej (fun m hm e => ?_) ?_
        · have := nodup_at (pn_nodup o a) e ej
          omega
        walk_at "go"
        exact W
      · have hc' : inFlat (.str z) L = false := hc
        rw [← hL, inFlat_strs] at hc'
        have W := w2 h1 (fun z' e => by cases e; exact of_decide_eq_false hc') k1
        walk_at "go"
        exact W
    all_goals
      have W := w2 h1 (fun z' e => by cases e) k1
      walk_at "go"
      exact W

end Lw

set_option Elab.async false
set_option linter.all false
set_option maxRecDepth 100000
set_option maxHeartbeats 1000000
namespace Lw
open PySem PySem.Spec PyProof.Rows L2 Mi
local macro_rules | `(tactic| walk_at "mem") => `(tactic| first | exact fun _ z => absurd z List.not_mem_nil | exact List.not_mem_nil | (intro i hi; simp only [List.mem_cons, List.not_mem_nil, or_false, false_or] at hi ⊢; omega) | (simp only [List.mem_cons, List.not_mem_nil, or_false, false_or, not_or]; omega))
local macro_rules | `(tactic| walk_at "get") => `(tactic| first | assumption | (apply Keep.get; assumption; walk_at "get"; walk_at "mem"))
local macro_rules | `(tactic| walk_at "keep") => `(tactic| first | assumption | exact Keep.refl | (apply Keep.step; assumption; walk_at "keep"; walk_at "mem"))
local macro_rules | `(tactic| walk_at "one") => `(tactic| (conv => whnf) <;> first
  | (apply br_t; rfl)
  | (apply br_f; rfl)
  | (apply rdO_i; walk_at "get")
  | (apply itm_i; first | rfl | assumption | exact getAt_end _ _)
  | (apply gtD_i; assumption)
  | (apply new_i; intro p h' e1 l1 l2 l3 k)
  | (apply put_i; walk_at "get"; intro h' e1 l1 k)
  | (apply iLst_i; first | rfl | exact intsOf_map _)
  | (apply chk_i; first | rfl | exact lenOk_le (by simp only [List.length_map, List.length_cons, List.length_append, List.length_take, List.length_nil, List.length_replicate, List.length_dropLast]; omega) | exact small_lt (by simp only [List.length_map, List.length_cons, List.length_append, List.length_take, List.length_nil, List.length_replicate, List.length_dropLast]; omega) | assumption | exact mulOk_r (by decide) | exact mulOk_l (by decide) | exact lenOk_le (by omega) | exact small_lt (by omega) | (simp; omega)))
local macro_rules | `(tactic| walk_at "go") => `(tactic| (repeat walk_at "one"); try (conv => whnf))
local macro_rules | `(tactic| walk_at "br") => `(tactic| (refine br_i (fun hc => ?_) (fun hc => ?_) <;> simp only [Bool.not_eq_true', Bool.not_eq_false', beq_iff_eq, beq_eq_false_iff_ne, ne_eq, decide_eq_true_eq, decide_eq_false_iff_not, bne_iff_ne, bne_eq_false_iff_eq] at hc) <;> first | (exfalso; omega) | walk_at "go")
theorem cutL {xs : List D} {i : Nat} (h : i < xs.length) : Mi.cutD xs none (some (i : Int)) = xs.take i := by
  unfold Mi.cutD
  rw [HT.sIx_nat, HT.sIx_none, List.drop_zero, Nat.min_eq_left (by omega), Nat.sub_zero]
theorem cutR {xs : List D} {i : Nat} (h : i < xs.length) : Mi.cutD xs (some ((i : Int) + 1)) none = xs.drop (i + 1) := by
  unfold Mi.cutD
  rw [show ((i : Int) + 1) = ((i + 1 : Nat) : Int) from rfl, HT.sIx_nat, HT.sIx_none, Nat.min_eq_left (by omega)]
  exact List.take_of_length_le (by rw [List.length_drop]; omega)
theorem chkL {xs : List D} {i : Nat} (h : i < xs.length) : (!(decide (HT.sIx xs.length 0 none = 0) && decide (HT.sIx xs.length xs.length (some (i : Int)) = xs.length))) = true := by
  rw [HT.sIx_nat, HT.sIx_none, Nat.min_eq_left (by omega), decide_eq_false (show ¬ i = xs.length by omega), Bool.and_false]
  rfl
theorem chkR {xs : List D} {i : Nat} (h : i < xs.length) : (!(decide (HT.sIx xs.length 0 (some ((i : Int) + 1)) = 0) && decide (HT.sIx xs.length xs.length none = xs.length))) = true := by
  rw [show ((i : Int) + 1) = ((i + 1 : Nat) : Int) from rfl, HT.sIx_nat, HT.sIx_none, Nat.min_eq_left (by omega), decide_eq_false (show ¬ i + 1 = 0 by omega), Bool.false_and]
  rfl
inductive Pt where | fn (i : Nat) | on (j : Nat) | main
/-- its name, its parameters, its block -/
def Pt.at_ (t : Tr) : Pt → Option (Str × List Str × List St)
  | .fn i => t.funs[i]?.map fun f => (pnF f, f.2.1, f.2.2)
  | .on j => t.ons[j]?.map fun o => (pnO o, [], o.2)
  | .main => some (w_main, [], t.main)
def Pt.no (t : Tr) : Pt → Nat
  | .fn i => t.cells.length + i
  | .on j => t.cells.length + t.funs.length + j
  | .main => t.cells.length + t.funs.length + t.ons.length
def Pt.put (t : Tr) (ps : List Str) (b : List St) : Pt → Tr
  | .fn i => match t.funs[i]? with
    | some f => { t with funs := t.funs.set i (f.1, ps, b) }
    | none => t
  | .on j => match t.ons[j]? with
    | some o => { t with ons := t.ons.set j (o.1, b) }
    | none => t
  | .main => { t with main := b }
theorem Pt.named {t : Tr} {P : Pt} {z : Str} {ps : List Str} {b : List St} (e : P.at_ t = some (z, ps, b)) : (pnames t)[P.no t]? = some z := by
  have l1 : (t.cells.map pnC).length = t.cells.length := List.length_map ..
  have l2 : (t.funs.map pnF).length = t.funs.length := List.length_map ..
  have l3 : (t.ons.map pnO).length = t.ons.length := List.length_map ..
  unfold pnames
  cases P with
  | fn i =>
    simp only [Pt.at_, Option.map_eq_some_iff, Prod.mk.injEq] at e
    obtain ⟨f, ef, e1, _⟩ := e
    have lt := (List.getElem?_eq_some_iff.mp ef).1
    simp only [Pt.no]
    rw [List.getElem?_append_left (by simp only [List.length_append]; omega), List.getElem?_append_left (by simp only [List.length_append]; omega), List.getElem?_append_right (by omega), l1, Nat.add_sub_cancel_left, List.getElem?_map, ef]
    exact congrArg some e1
  | on i =>
    simp only [Pt.at_, Option.map_eq_some_iff, Prod.mk.injEq] at e
    obtain ⟨f, ef, e1, _⟩ := e
    have lt := (List.getElem?_eq_some_iff.mp ef).1
    simp only [Pt.no]
    rw [List.getElem?_append_left (by simp only [List.length_append]; omega), List.getElem?_append_right (by simp only [List.length_append]; omega), List.length_append, l1, l2, Nat.add_sub_cancel_left, List.getElem?_map, ef]
    exact congrArg some e1
  | main =>
    simp only [Pt.at_, Option.some.injEq, Prod.mk.injEq] at e
    obtain ⟨e1, _⟩ := e
    simp only [Pt.no]
    rw [List.getElem?_append_right (by simp only [List.length_append]; omega), List.length_append, List.length_append, l1, l2, l3, Nat.sub_self, ← e1]
    rfl
theorem pb_fn {n : Nat} {C F O : List D} {M a b x : D} {k : Int} {i : Nat} {h : Hh} {Q : Kd} {X : Ex} (ek : k - (C.length : Nat) = (i : Int)) (lt : i < F.length) (ge : getAt F (i : Int) = some (.tup [x, a, b])) (w : Q (.tup [a, b]) h) : rn (n + 1) i_parameters_and_block [.tup [.tup C, .tup F, .tup O, M], .int k] h Q X := by
  refine u_parameters_and_block ?_
  show wB gls (rn n) X c_parameters_and_block_3 (R0 Q) [some (.tup [.tup C, .tup F, .tup O, M]), some (.int k), some (.tup C), some (.tup F), some (.tup O), some M, some (.int (k - (C.length : Nat)))] h
  rw [ek]
  conv => whnf
  refine br_t (decide_eq_true (by omega)) ?_
  walk_at "go"
  exact w
theorem pb_on {n : Nat} {C F O : List D} {M b x : D} {k j : Int} {i : Nat} {h : Hh} {Q : Kd} {X : Ex} (ek : k - (C.length : Nat) = j) (ej : j - (F.length : Nat) = (i : Int)) (lt : i < O.length) (ge : getAt O (i : Int) = some (.tup [x, b])) (w : Q (.tup [.tup [], b]) h) : rn (n + 1) i_parameters_and_block [.tup [.tup C, .tup F, .tup O, M], .int k] h Q X := by
  refine u_parameters_and_block ?_
  show wB gls (rn n) X c_parameters_and_block_3 (R0 Q) [some (.tup [.tup C, .tup F, .tup O, M]), some (.int k), some (.tup C), some (.tup F), some (.tup O), some M, some (.int (k - (C.length : Nat)))] h
  rw [ek]
  conv => whnf
  refine br_f (decide_eq_false (by omega)) ?_
  show wB gls (rn n) X c_parameters_and_block_0 (R0 Q) [some (.tup [.tup C, .tup F, .tup O, M]), some (.int k), some (.tup C), some (.tup F), some (.tup O), some M, some (.int (j - (F.length : Nat)))] h
  rw [ej]
  conv => whnf
  refine chk_i rfl ?_
  conv => whnf
  refine br_t (decide_eq_true (Int.ofNat_lt.mpr lt)) ?_
  walk_at "go"
  exact w
theorem pb_main {n : Nat} {C F O : List D} {M : D} {k j m : Int} {h : Hh} {Q : Kd} {X : Ex} (ek : k - (C.length : Nat) = j) (ej : j - (F.length : Nat) = m) (h0 : (F.length : Int) ≤ j) (lt : (O.length : Int) ≤ m) (w : Q (.tup [.tup [], M]) h) : rn (n + 1) i_parameters_and_block [.tup [.tup C, .tup F, .tup O, M], .int k] h Q X := by
  refine u_parameters_and_block ?_
  show wB gls (rn n) X c_parameters_and_block_3 (R0 Q) [some (.tup [.tup C, .tup F, .tup O, M]), some (.int k), some (.tup C), some (.tup F), some (.tup O), some M, some (.int (k - (C.length : Nat)))] h
  rw [ek]
  conv => whnf
  refine br_f (decide_eq_false (by omega)) ?_
  show wB gls (rn n) X c_parameters_and_block_0 (R0 Q) [some (.tup [.tup C, .tup F, .tup O, M]), some (.int k), some (.tup C), some (.tup F), some (.tup O), some M, some (.int (j - (F.length : Nat)))] h
  rw [ej]
  conv => whnf
  refine chk_i rfl ?_
  conv => whnf
  refine br_f (decide_eq_false (Int.not_lt.mpr lt)) ?_
  walk_at "go"
  exact w
theorem wp_fn {n : Nat} {C F O : List D} {M A B x y z : D} {k : Int} {i : Nat} {h : Hh} {Q : Kd} {X : Ex} (ek : k - (C.length : Nat) = (i : Int)) (lt : i < F.length) (hl : F.length < 1000) (ge : getAt F (i : Int) = some (.tup [x, y, z])) (w : Q (.tup [.tup C, .tup (F.take i ++ [.tup [x, A, B]] ++ F.drop (i + 1)), .tup O, M]) h) : rn (n + 1) i_with_part [.tup [.tup C, .tup F, .tup O, M], .int k, A, B] h Q X := by
  have ll : (F.take i).length = i := by rw [List.length_take]; omega
  have lr : (F.drop (i + 1)).length = F.length - (i + 1) := List.length_drop ..
  refine u_with_part ?_
  show wB gls (rn n) X c_with_part_5 (R0 Q) [some (.tup [.tup C, .tup F, .tup O, M]), some (.int k), some A, some B, some (.tup C), some (.tup F), some (.tup O), some M, some (.int (k - (C.length : Nat)))] h
  rw [ek]
  conv => whnf
  refine br_t (decide_eq_true (Int.ofNat_lt.mpr lt)) ?_
  walk_at "go"
  refine chk_i (chkL lt) ?_
  rw [cutL lt]
  walk_at "go"
  refine chk_i (chkR lt) ?_
  rw [cutR lt]
  walk_at "go"
  exact w
theorem wp_on {n : Nat} {C F O : List D} {M A B x y : D} {k j : Int} {i : Nat} {h : Hh} {Q : Kd} {X : Ex} (ek : k - (C.length : Nat) = j) (ej : j - (F.length : Nat) = (i : Int)) (lt : i < O.length) (hl : O.length < 1000) (ge : getAt O (i : Int) = some (.tup [x, y])) (w : Q (.tup [.tup C, .tup F, .tup (O.take i ++ [.tup [x, B]] ++ O.drop (i + 1)), M]) h) : rn (n + 1) i_with_part [.tup [.tup C, .tup F, .tup O, M], .int k, A, B] h Q X := by
  have ll : (O.take i).length = i := by rw [List.length_take]; omega
  have lr : (O.drop (i + 1)).length = O.length - (i + 1) := List.length_drop ..
  refine u_with_part ?_
  show wB gls (rn n) X c_with_part_5 (R0 Q) [some (.tup [.tup C, .tup F, .tup O, M]), some (.int k), some A, some B, some (.tup C), some (.tup F), some (.tup O), some M, some (.int (k - (C.length : Nat)))] h
  rw [ek]
  conv => whnf
  refine br_f (decide_eq_false (by omega)) ?_
  conv => whnf
  rw [ej]
  refine br_t (decide_eq_true (Int.ofNat_lt.mpr lt)) ?_
  walk_at "go"
  refine chk_i (chkL lt) ?_
  rw [cutL lt]
  walk_at "go"
  refine chk_i (chkR lt) ?_
  rw [cutR lt]
  walk_at "go"
  exact w
theorem wp_main {n : Nat} {C F O : List D} {M A B : D} {k j m : Int} {h : Hh} {Q : Kd} {X : Ex} (ek : k - (C.length : Nat) = j) (ej : j - (F.length : Nat) = m) (h0 : (F.length : Int) ≤ j) (lt : (O.length : Int) ≤ m) (w : Q (.tup [.tup C, .tup F, .tup O, B]) h) : rn (n + 1) i_with_part [.tup [.tup C, .tup F, .tup O, M], .int k, A, B] h Q X := by
  refine u_with_part ?_
  show wB gls (rn n) X c_with_part_5 (R0 Q) [some (.tup [.tup C, .tup F, .tup O, M]), some (.int k), some A, some B, some (.tup C), some (.tup F), some (.tup O), some M, some (.int (k - (C.length : Nat)))] h
  rw [ek]
  conv => whnf
  refine br_f (decide_eq_false (by omega)) ?_
  conv => whnf
  rw [ej]
  refine br_f (decide_eq_false (Int.not_lt.mpr lt)) ?_
  walk_at "go"
  exact w
theorem set_cut {α : Type} {f : α → D} {xs : List α} {i : Nat} {x : α} (h : i < xs.length) : (xs.map f).take i ++ [f x] ++ (xs.map f).drop (i + 1) = (xs.set i x).map f := by
  rw [List.set_eq_take_append_cons_drop, if_pos h, List.map_append, List.map_cons, List.map_take, List.map_drop, List.append_assoc]
  rfl
theorem pb_ok {n : Nat} {t : Tr} {P : Pt} {z : Str} {ps : List Str} {b : List St} {h : Hh} {Q : Kd} {X : Ex} (hn : 1 ≤ n) (e : P.at_ t = some (z, ps, b)) (w : Q (.tup [.tup (ps.map .str), bD b]) h) : rn n i_parameters_and_block [t.d, .int (P.no t)] h Q X := by
  cases n with
  | zero => omega
  | succ n =>
    have l1 : (t.cells.map cD).length = t.cells.length := List.length_map ..
    have l2 : (t.funs.map fuD).length = t.funs.length := List.length_map ..
    have l3 : (t.ons.map oD).length = t.ons.length := List.length_map ..
    cases P with
    | fn i =>
      simp only [Pt.at_, Option.map_eq_some_iff, Prod.mk.injEq] at e
      obtain ⟨f, ef, e1, rfl, rfl⟩ := e
      have lt := (List.getElem?_eq_some_iff.mp ef).1
      exact pb_fn (i := i) (by rw [l1]; simp only [Pt.no]; omega) (by omega) (getAt_nat (by rw [List.getElem?_map, ef]; rfl)) w
    | on i =>
      simp only [Pt.at_, Option.map_eq_some_iff, Prod.mk.injEq] at e
      obtain ⟨f, ef, e1, rfl, rfl⟩ := e
      have lt := (List.getElem?_eq_some_iff.mp ef).1
      exact pb_on (i := i) (j := ((t.funs.length + i : Nat) : Int)) (by rw [l1]; simp only [Pt.no]; omega) (by rw [l2]; omega) (by omega) (getAt_nat (by rw [List.getElem?_map, ef]; rfl)) w
    | main =>
      simp only [Pt.at_, Option.some.injEq, Prod.mk.injEq] at e
      obtain ⟨e1, rfl, rfl⟩ := e
      exact pb_main (j := ((t.funs.length + t.ons.length : Nat) : Int)) (m := (t.ons.length : Nat)) (by rw [l1]; simp only [Pt.no]; omega) (by rw [l2]; omega) (by rw [l2]; omega) (by rw [l3]; omega) w
theorem wp_ok {n : Nat} {t : Tr} {P : Pt} {z : Str} {ps qs : List Str} {b c : List St} {h : Hh} {Q : Kd} {X : Ex} (hn : 1 ≤ n) (o : t.nm) (e : P.at_ t = some (z, qs, c)) (w : Q (P.put t ps b).d h) : rn n i_with_part [t.d, .int (P.no t), .tup (ps.map .str), bD b] h Q X := by
  cases n with
  | zero => omega
  | succ n =>
    obtain ⟨oc, of, oo, lc, lf, lo⟩ := o
    have l1 : (t.cells.map cD).length = t.cells.length := List.length_map ..
    have l2 : (t.funs.map fuD).length = t.funs.length := List.length_map ..
    have l3 : (t.ons.map oD).length = t.ons.length := List.length_map ..
    cases P with
    | fn i =>
      simp only [Pt.at_, Option.map_eq_some_iff, Prod.mk.injEq] at e
      obtain ⟨f, ef, e1, rfl, rfl⟩ := e
      have lt := (List.getElem?_eq_some_iff.mp ef).1
      refine wp_fn (i := i) (x := .str f.1) (by rw [l1]; simp only [Pt.no]; omega) (by omega) (by omega) (getAt_nat (by rw [List.getElem?_map, ef]; rfl)) ?_
      have e2 := set_cut (f := fuD) (x := (f.1, ps, b)) lt
      rw [show (D.tup [.str f.1, .tup (ps.map .str), bD b]) = fuD (f.1, ps, b) from rfl, e2]
      simp only [Pt.put, ef] at w
      exact w
    | on i =>
      simp only [Pt.at_, Option.map_eq_some_iff, Prod.mk.injEq] at e
      obtain ⟨f, ef, e1, rfl, rfl⟩ := e
      have lt := (List.getElem?_eq_some_iff.mp ef).1
      refine wp_on (i := i) (x := .int f.1) (j := ((t.funs.length + i : Nat) : Int)) (by rw [l1]; simp only [Pt.no]; omega) (by rw [l2]; omega) (by omega) (by omega) (getAt_nat (by rw [List.getElem?_map, ef]; rfl)) ?_
      have e2 := set_cut (f := oD) (x := (f.1, b)) lt
      rw [show (D.tup [.int f.1, bD b]) = oD (f.1, b) from rfl, e2]
      simp only [Pt.put, ef] at w
      exact w
    | main =>
      exact wp_main (j := ((t.funs.length + t.ons.length : Nat) : Int)) (m := (t.ons.length : Nat)) (by rw [l1]; simp only [Pt.no]; omega) (by rw [l2]; omega) (by rw [l2]; omega) (by rw [l3]; omega) w
/-! ### pairs -/
def gpD (p : Str × D) : D := .tup [.str p.1, p.2]
def olds (ps : List (Str × D)) : List Str := ps.map (·.1)
/-- may these pairs be asked for? -/
def fine1 (xs : List Str) (ps : List (Str × D)) (p : Str × D) : Bool := decide (p.1 ∈ xs) && (decide ((olds ps).countP (· == p.1) ≤ 1) && isNm p.2)
def fine (xs : List Str) (ps : List (Str × D)) : Bool := ps.all (fine1 xs ps)
theorem la_ok {n q : Nat} {xs : List Str} {ps : List (Str × D)} {h : Hh} {Q : Kd} {X : Ex} (hn : 3 ≤ n) (eq : h[q]? = some (.lst (xs.map .str))) (hk : ∀ p ∈ ps, kS p.2 = true ∧ ∀ z, p.2 = .str z → z.length ≤ 100) (hl : ps.length < 1000000)
    (w1 : fine xs ps = true → ∀ h', Keep [] h h' → Q .non h') (w2 : fine xs ps = false → ∀ h', Keep [] h h' → bad X w_name h') : rn n i_look_at_pairs [.ref q, .tup (ps.map gpD)] h Q X := by
  cases n with
  | zero => omega
  | succ n =>
    have hq := lt_of eq
    refine u_look_at_pairs ?_
    walk_at "go"
    rename_i r h1 e1 g1 g2 g3 k1
    refine map_i gpD (fun p => .str p.1) ps e1 (by omega) (fun p mp h2 K N k2 hK => ?_) fun h2 e2 k2 => ?_
    · unfold gpD
      walk_at "go"
      exact hK _ Keep.refl
    have eo : h2[r]? = some (.lst ((olds ps).map .str)) := by rw [e2, olds, List.map_map]; rfl
    have eq2 : h2[q]? = some (.lst (xs.map .str)) := by walk_at "get"
    have k02 : Keep [] h h2 := by walk_at "keep"
    walk_at "go"
    refine loop_i (I := fun rr σ h' => ∃ (z1 z2 : List (Str × D)) (x3 x4 : Option D), ps = z1 ++ z2 ∧ rr = z2.map gpD ∧ σ = [some (.ref q), some (.tup (ps.map gpD)), some (.ref r), x3, x4] ∧ h' = h2 ∧ z1.all (fine1 xs ps) = true) ?_ ?_ _ _ _ ⟨[], ps, _, _, rfl, rfl, rfl, rfl, rfl⟩
    · rintro x rr σ h' K ⟨z1, z2, x3, x4, ez, er, rfl, rfl, ok⟩ hK
      cases z2 with
      | nil => cases er
      | cons p z2 =>
        simp only [List.map_cons, List.cons.injEq] at er
        obtain ⟨rfl, rfl⟩ := er
        have mp : p ∈ ps := by rw [ez]; simp
        obtain ⟨hp, hz⟩ := hk p mp
        obtain ⟨p1, p2⟩ := p
        have F : fine1 xs ps (p1, p2) = (decide (p1 ∈ xs) && (decide ((olds ps).countP (· == p1) ≤ 1) && isNm p2)) := rfl
        have BAD : fine1 xs ps (p1, p2) = false → bad X w_name h' := fun e => w2 (by unfold fine; rw [List.all_eq_false]; exact ⟨_, mp, by rw [e]; simp⟩) h' k02
        generalize hP : ps.map gpD = P at hK ⊢
        unfold gpD
        walk_at "go"
        refine chk_i (by show (true && _) = true; rw [all_fl]; rfl) ?_
        conv => whnf
        refine br_i (fun hc => ?_) (fun hc => ?_)
        · have hc' : (!inFlat (.str p1) (xs.map .str)) = true := hc
          rw [inFlat_strs] at hc'
          have := BAD (by rw [F]; simp only [Bool.not_eq_true'] at hc'; rw [hc']; rfl)
          walk_at "go"
          exact this
        have hc' : (!inFlat (.str p1) (xs.map .str)) = false := hc
        rw [inFlat_strs] at hc'
        have c1 : decide (p1 ∈ xs) = true := by simpa using hc'
        rw [c1, Bool.true_and] at F
        walk_at "go"
        refine cnt_i (olds ps) rfl ?_
        walk_at "go"
        refine br_i (fun hc2 => ?_) (fun hc2 => ?_)
        · have c2 : ¬ (olds ps).countP (· == p1) ≤ 1 := by
            have : (1 : Int) < ((olds ps).countP (· == p1) : Nat) := of_decide_eq_true hc2
            omega
          have := BAD (by rw [F, decide_eq_false c2]; rfl)
          walk_at "go"
          exact this
        have c2 : (olds ps).countP (· == p1) ≤ 1 := by
          have : ¬ (1 : Int) < ((olds ps).countP (· == p1) : Nat) := of_decide_eq_false hc2
          omega
        rw [decide_eq_true c2, Bool.true_and] at F
        conv => whnf
        refine in_ok (d := p2) (by omega) hp hz ?_
        conv => whnf
        refine br_i (fun hc3 => ?_) (fun hc3 => ?_)
        · have c3 : isNm p2 = false := by simpa using hc3
          have := BAD (by rw [F, c3])
          walk_at "go"
          exact this
        have c3 : isNm p2 = true := by simpa using hc3
        exact hK _ _ ⟨z1 ++ [(p1, p2)], z2, _, _, by rw [ez]; simp, rfl, rfl, rfl, by rw [List.all_append, ok]; simp [F, c3]⟩
    · rintro σ h' ⟨z1, z2, x3, x4, ez, er, rfl, rfl, ok⟩
      have : z2 = [] := List.map_eq_nil_iff.mp er.symm
      subst this
      rw [List.append_nil] at ez
      subst ez
      have := w1 ok h' k02
      walk_at "go"
      exact this

end Lw

set_option Elab.async false
set_option linter.all false
set_option maxRecDepth 100000
set_option maxHeartbeats 1000000
namespace Lw
open PySem PySem.Spec PyProof.Rows L2 Mi
local macro_rules | `(tactic| walk_at "mem") => `(tactic| first | exact fun _ z => absurd z List.not_mem_nil | exact List.not_mem_nil | (intro i hi; simp only [List.mem_cons, List.not_mem_nil, or_false, false_or] at hi ⊢; omega) | (simp only [List.mem_cons, List.not_mem_nil, or_false, false_or, not_or]; omega))
local macro_rules | `(tactic| walk_at "get") => `(tactic| first | assumption | (apply Keep.get; assumption; walk_at "get"; walk_at "mem"))
local macro_rules | `(tactic| walk_at "keep") => `(tactic| first | assumption | exact Keep.refl | (apply Keep.step; assumption; walk_at "keep"; walk_at "mem"))
local macro_rules | `(tactic| walk_at "one") => `(tactic| (conv => whnf) <;> first
  | (apply br_t; rfl)
  | (apply br_f; rfl)
  | (apply rdO_i; walk_at "get")
  | (apply itm_i; first | rfl | assumption | exact getAt_end _ _)
  | (apply gtD_i; assumption)
  | (apply new_i; intro p h' e1 l1 l2 l3 k)
  | (apply put_i; walk_at "get"; intro h' e1 l1 k)
  | (apply iLst_i; first | rfl | exact intsOf_map _)
  | (apply chk_i; first | rfl | exact lenOk_le (by simp only [List.length_map, List.length_cons, List.length_append, List.length_take, List.length_nil, List.length_replicate, List.length_dropLast]; omega) | exact small_lt (by simp only [List.length_map, List.length_cons, List.length_append, List.length_take, List.length_nil, List.length_replicate, List.length_dropLast]; omega) | assumption | exact mulOk_r (by decide) | exact mulOk_l (by decide) | exact lenOk_le (by omega) | exact small_lt (by omega) | (simp; omega)))
local macro_rules | `(tactic| walk_at "go") => `(tactic| (repeat walk_at "one"); try (conv => whnf))
local macro_rules | `(tactic| walk_at "br") => `(tactic| (refine br_i (fun hc => ?_) (fun hc => ?_) <;> simp only [Bool.not_eq_true', Bool.not_eq_false', beq_iff_eq, beq_eq_false_iff_ne, ne_eq, decide_eq_true_eq, decide_eq_false_iff_not, bne_iff_ne, bne_eq_false_iff_eq] at hc) <;> first | (exfalso; omega) | walk_at "go")

/-! ### tables of pairs -/
def strOf : D → Option Str
  | .str y => some y
  | _ => none
def tabP (ps : List (Str × D)) : Tab := fun x => (lkD ps x).bind strOf
theorem isNm_str {d : D} (h : isNm d = true) : ∃ y, d = .str y := by cases d <;> first | exact nc h | exact ⟨_, rfl⟩
theorem count_nodup : ∀ {xs : List Str}, (∀ x ∈ xs, xs.countP (· == x) ≤ 1) → xs.Nodup
  | [], _ => List.nodup_nil
  | x :: xs, h => by
    have h0 := h x List.mem_cons_self
    rw [List.countP_cons_of_pos (by simp)] at h0
    refine List.nodup_cons.mpr ⟨fun m => ?_, count_nodup fun y m => ?_⟩
    · have : 0 < xs.countP (· == x) := List.countP_pos_iff.mpr ⟨x, m, by simp⟩
      omega
    · have := h y (List.mem_cons_of_mem _ m)
      rw [List.countP_cons] at this
      omega
theorem fine_e {xs : List Str} {ps : List (Str × D)} (h : fine xs ps = true) : (olds ps).Nodup ∧ ∀ p ∈ ps, p.1 ∈ xs ∧ isNm p.2 = true := by
  have each : ∀ p ∈ ps, p.1 ∈ xs ∧ (olds ps).countP (· == p.1) ≤ 1 ∧ isNm p.2 = true := fun p m => by
    have := List.all_eq_true.mp h p m
    unfold fine1 at this
    rw [Bool.and_eq_true, Bool.and_eq_true] at this
    exact ⟨of_decide_eq_true this.1, of_decide_eq_true this.2.1, this.2.2⟩
  refine ⟨count_nodup fun x m => ?_, fun p m => ⟨(each p m).1, (each p m).2.2⟩⟩
  obtain ⟨p, mp, rfl⟩ := List.mem_map.mp m
  exact (each p mp).2.1
theorem fine_i {xs : List Str} {ps : List (Str × D)} (nd : (olds ps).Nodup) (h : ∀ p ∈ ps, p.1 ∈ xs ∧ isNm p.2 = true) : fine xs ps = true := by
  refine List.all_eq_true.mpr fun p m => ?_
  unfold fine1
  rw [Bool.and_eq_true, Bool.and_eq_true]
  refine ⟨decide_eq_true (h p m).1, decide_eq_true ?_, (h p m).2⟩
  have : ∀ {ys : List Str} {x : Str}, ys.Nodup → ys.countP (· == x) ≤ 1 := by
    intro ys
    induction ys with
    | nil => intro x _; simp
    | cons y ys ih =>
      intro x nd
      obtain ⟨n1, n2⟩ := List.nodup_cons.mp nd
      rw [List.countP_cons]
      by_cases e : y = x
      · subst e
        have : ys.countP (· == y) = 0 := List.countP_eq_zero.mpr fun a ma e => n1 (by rw [← eq_of_beq e]; exact ma)
        simp [this]
      · have := ih (x := x) n2
        have e2 : (y == x) = false := beq_eq_false_iff_ne.mpr e
        simp [e2, this]
  exact this nd
theorem lkD_mem : ∀ {ps : List (Str × D)} {x : Str} {d : D}, lkD ps x = some d → (x, d) ∈ ps
  | [], _, _, h => by cases h
  | e :: r, x, d, h => by
    rw [lk_cons] at h
    split at h
    · rename_i hx
      cases h
      rw [← strEq_iff.mp hx]
      exact List.mem_cons_self
    · exact List.mem_cons_of_mem _ (lkD_mem h)
theorem tabP_lk {ps : List (Str × D)} (h : ∀ p ∈ ps, ∃ y, p.2 = .str y) (x : Str) : lkD ps x = (tabP ps x).map .str := by
  unfold tabP
  cases e : lkD ps x with
  | none => rfl
  | some d =>
    obtain ⟨y, ey⟩ := h _ (lkD_mem e)
    simp only at ey
    subst ey
    rfl
theorem dt_pairs {h : Hh} {q : Nat} {ps : List (Str × D)} (e : h[q]? = some (.dic (mergeD [] ps))) (nd : (olds ps).Nodup) (hs : ∀ p ∈ ps, ∃ y, p.2 = .str y) : DT h q (tabP ps) ps.length :=
  ⟨_, e, fun x => by rw [lk_merge x nd, show lkD [] x = none from rfl, Option.or_none]; exact tabP_lk hs x, merge_keys List.nodup_nil, by have := merge_len (es := ps) (kvs := []); simpa using this⟩
/-! ### names, each but once -/
theorem nub_eq : ∀ {ys acc : List Str}, (acc ++ ys).Nodup → ys.foldl stp acc = acc ++ ys
  | [], acc, _ => by simp
  | y :: ys, acc, h => by
    have hy : acc.any (fun z => strEq z y) = false := by
      rw [List.any_eq_false]
      intro z m e
      have := strEq_iff.mp e
      subst this
      exact (List.nodup_append.mp h).2.2 _ m _ List.mem_cons_self rfl
    have e : stp acc y = acc ++ [y] := by unfold stp; rw [hy]; rfl
    rw [List.foldl_cons, e, nub_eq (by rw [List.append_assoc]; exact h), List.append_assoc]
    rfl
theorem nub_lt : ∀ {ys acc : List Str}, acc.Nodup → ¬ (acc ++ ys).Nodup → (ys.foldl stp acc).length < acc.length + ys.length
  | [], acc, n, h => absurd (by simpa using n) h
  | y :: ys, acc, n, h => by
    rw [List.foldl_cons]
    by_cases hy : y ∈ acc
    · have e : stp acc y = acc := by
        unfold stp
        rw [if_pos (show (acc.any fun z => strEq z y) = true from List.any_eq_true.mpr ⟨y, hy, strEq_self y⟩)]
      have := nub_len ys acc
      rw [e]
      simp only [List.length_cons]
      omega
    · have e : stp acc y = acc ++ [y] := by
        unfold stp
        rw [if_neg fun z => ?_]
        obtain ⟨x, m, ex⟩ := List.any_eq_true.mp z
        exact hy (strEq_iff.mp ex ▸ m)
      have n2 : (acc ++ [y]).Nodup := nodup_app n (by simp) fun x m z => hy (by rw [← List.mem_singleton.mp z]; exact m)
      have := nub_lt (ys := ys) n2 (by rw [List.append_assoc]; exact h)
      rw [e]
      simp only [List.length_append, List.length_cons, List.length_nil] at this ⊢
      omega
theorem nub_iff (ys : List Str) : decide (((nub ys).length : Int) < (ys.length : Int)) = !decide ys.Nodup := by
  by_cases h : ys.Nodup
  · have : nub ys = ys := by have := nub_eq (ys := ys) (acc := []) (by simpa using h); simpa [nub] using this
    rw [this, decide_eq_true h]
    simp
  · have := nub_lt (ys := ys) (acc := []) List.nodup_nil (by simpa using h)
    rw [decide_eq_false h]
    simp only [List.length_nil, Nat.zero_add] at this
    exact decide_eq_true (by unfold nub; omega)
/-- does one of the new names clash? -/
def clash (t : Tr) (xs : List Str) : Bool := !decide xs.Nodup || decide (0 < (t.cells.filter fun c => decide (c.1 ∈ xs)).length)
theorem clash_no {t : Tr} {xs : List Str} (n : xs.Nodup) (h : ∀ c ∈ t.cells, c.1 ∉ xs) : clash t xs = false := by
  unfold clash
  rw [decide_eq_true n, List.filter_eq_nil_iff.mpr fun c m => by rw [decide_eq_false (h c m)]; simp]
  rfl
theorem clash_twice {t : Tr} {xs : List Str} (n : ¬ xs.Nodup) : clash t xs = true := by
  unfold clash
  rw [decide_eq_false n]
  rfl
theorem clash_cell {t : Tr} {xs : List Str} {c : Str × Int} (m : c ∈ t.cells) (h : c.1 ∈ xs) : clash t xs = true := by
  unfold clash
  rw [Bool.or_eq_true]
  exact .inr (decide_eq_true (List.length_pos_of_mem (List.mem_filter.mpr ⟨m, decide_eq_true h⟩)))
/-- the part's names -/
def own (ps : List Str) (b : List St) : List Str := ps ++ St.bvars b
theorem rl_ok {n : Nat} {t : Tr} {P : Pt} {z : Str} {ps : List Str} {b : List St} {prs : List (Str × D)} {h : Hh} {Q : Kd} {X : Ex} (hn : 30 ≤ n) (o : t.nm) (a : t.ap) (e : P.at_ t = some (z, ps, b)) (bo : bOk b) (hps : ps.length ≤ 3) (ln : (own ps b).length < 3500)
    (hk : ∀ p ∈ prs, kS p.2 = true ∧ ∀ z, p.2 = .str z → z.length ≤ 100) (hl : prs.length < 3500)
    (w1 : fine (own ps b) prs = true → clash t ((own ps b).map (gd (tabP prs))) = false → ∀ h', Keep [] h h' → Q (P.put t (ps.map (gd (tabP prs))) (St.rens (gd (tabP prs)) (gd nul) b)).d h')
    (w2 : fine (own ps b) prs = false → ∀ h', Keep [] h h' → bad X w_name h')
    (w3 : fine (own ps b) prs = true → clash t ((own ps b).map (gd (tabP prs))) = true → ∀ h', Keep [] h h' → bad X w_taken h') : rn n i_renamed_locals [t.d, .str z, .tup (prs.map gpD)] h Q X := by
  cases n with
  | zero => omega
  | succ n =>
    have l1 : (t.cells.map cD).length = t.cells.length := List.length_map ..
    have lb : (St.bvars b).length < 3500 := by unfold own at ln; simp only [List.length_append] at ln; omega
    have lm : ((St.bvars b).map D.str).length = (St.bvars b).length := List.length_map ..
    have lp : (ps.map D.str).length = ps.length := List.length_map ..
    obtain ⟨b1, b2, b3⟩ := bo
    refine u_renamed_locals ?_
    walk_at "go"
    refine pno_ok (by omega) o a rfl (fun z' j h1 ez ej k1 => ?_) (fun h1 no _ => absurd (List.mem_of_getElem? (Pt.named e)) (no z rfl))
    cases ez
    have hj : j = P.no t := nodup_at (pn_nodup o a) ej (Pt.named e)
    subst hj
    have hno : t.cells.length ≤ P.no t := by cases P <;> simp only [Pt.no] <;> omega
    unfold Tr.d
    conv => whnf
    refine itm_i rfl ?_
    conv => whnf
    refine br_f (decide_eq_false (show ¬ ((P.no t : Nat) : Int) < ((t.cells.map cD).length : Nat) by rw [l1]; omega)) ?_
    conv => whnf
    refine pb_ok (t := t) (P := P) (by omega) e ?_
    generalize hT : D.tup [.tup (t.cells.map cD), .tup (t.funs.map fuD), .tup (t.ons.map oD), bD t.main] = td
    walk_at "go"
    refine lo_ok (by omega) b1 (by omega) fun h2 k2 => ?_
    rename_i q h3 e3 g1 g2 g3 k3
    walk_at "go"
    rename_i q2 h4 e4 g4 g5 g6 k4 u h5 e5 g7 g8 g9 k5
    have e5' : h5[u]? = some (.lst ((own ps b).map .str)) := by rw [e5, own, List.map_append]
    have k05 : Keep [] h h5 := by walk_at "keep"
    refine la_ok (by omega) e5' hk (by omega) (fun fi h6 k6 => ?_) (fun fi h6 k6 => ?_)
    · obtain ⟨nd, each⟩ := fine_e fi
      have e6 := k6.get e5' List.not_mem_nil
      have g10 := lt_of e6
      have k06 : Keep [] h h6 := by walk_at "keep"
      walk_at "go"
      refine prsD_i prs rfl (by rw [sizeLine_eq]; omega) ?_
      walk_at "go"
      rename_i dp h7 e7 g11 g12 g13 k7 tu h8 e8 g14 g15 g16 k8
      have k08 : Keep [] h h8 := by walk_at "keep"
      have dt : DT h8 dp (tabP prs) prs.length := (dt_pairs e7 nd fun p m => isNm_str (each p m).2).mono k8 List.not_mem_nil
      generalize tabP prs = f at w1 w3 dt
      have es : h8[u]? = some (.lst ((own ps b).map .str)) := k8.get (k7.get e6 List.not_mem_nil) List.not_mem_nil
      have g21 := k08.len
      have g22 := k06.len
      refine mapL_i D.str (fun x => .str (gd f x)) (own ps b) es e8 (by omega) (by omega) (fun x mx h9 K N k9 hK => ?_) fun h9 e9 k9 => ?_
      · obtain ⟨kvs, ek, ak, nk, lk⟩ := dt.mono k9 (by simp; omega)
        walk_at "go"
        rw [DT.gd ak x]
        exact hK _ Keep.refl
      have dt9 : DT h9 dp f prs.length := dt.mono k9 (by simp; omega)
      have et : h9[tu]? = some (.lst (((own ps b).map (gd f)).map .str)) := by rw [e9, List.map_map]; rfl
      have k09 : Keep [] h h9 := by walk_at "keep"
      have g17 := lt_of et
      generalize hTT : (own ps b).map (gd f) = T at w1 w3 et
      have lT : T.length < 3500 := by rw [← hTT, List.length_map]; exact ln
      have lT2 : (T.map D.str).length = T.length := List.length_map ..
      walk_at "go"
      refine lsetN_i T rfl (by omega) ?_
      walk_at "go"
      have TAKEN : clash t T = true → ∀ h', Keep [] h9 h' → bad X w_taken h' := fun c h' k => w3 fi c h' (by walk_at "keep")
      refine br_i (fun hc => ?_) (fun hc => ?_)
      · have hc' : decide (((nub T).length : Int) < ((T.map D.str).length : Int)) = true := hc
        rw [lT2, nub_iff] at hc'
        have := TAKEN (by unfold clash; rw [hc']; rfl) h9 Keep.refl
        walk_at "go"
        exact this
      have hc' : decide (((nub T).length : Int) < ((T.map D.str).length : Int)) = false := hc
      rw [lT2, nub_iff] at hc'
      rw [← hT]
      walk_at "go"
      rename_i cu h10 e10 g18 g19 g20 k10
      have et10 := k10.get et List.not_mem_nil
      refine flt_i cD (fun c => .str c.1) (fun c => decide (c.1 ∈ T)) t.cells e10 (by have := o.lc; omega) (fun c mc h11 K N k11 hK hN => ?_) fun h11 e11 k11 => ?_
      · have et11 := k11.get et10 (by simp; omega)
        unfold cD
        walk_at "go"
        refine chk_i (by show (true && _) = true; rw [all_fl]; rfl) ?_
        conv => whnf
        refine br_i (fun hc2 => ?_) (fun hc2 => ?_)
        · have hc2' : inFlat (.str c.1) (T.map .str) = true := hc2
          rw [inFlat_strs] at hc2'
          exact hK hc2' _ Keep.refl
        · have hc2' : inFlat (.str c.1) (T.map .str) = false := hc2
          rw [inFlat_strs] at hc2'
          exact hN hc2' _ Keep.refl
      have k911 : Keep [] h9 h11 := by walk_at "keep"
      have l11 : ((t.cells.filter fun c => decide (c.1 ∈ T)).map fun c => D.str c.1).length = (t.cells.filter fun c => decide (c.1 ∈ T)).length := List.length_map ..
      walk_at "go"
      refine br_i (fun hc2 => ?_) (fun hc2 => ?_)
      · have hc2' : (0 : Int) < (((t.cells.filter fun c => decide (c.1 ∈ T)).map fun c => D.str c.1).length : Nat) := of_decide_eq_true hc2
        have := TAKEN (by unfold clash; rw [Bool.or_eq_true]; exact .inr (decide_eq_true (by omega))) h11 k911
        walk_at "go"
        exact this
      have hc2' : ¬ (0 : Int) < (((t.cells.filter fun c => decide (c.1 ∈ T)).map fun c => D.str c.1).length : Nat) := of_decide_eq_false hc2
      have W := w1 fi (by unfold clash; rw [hc']; exact decide_eq_false (by omega))
      have dt11 := dt9.mono k911 List.not_mem_nil
      have et11 : h11[tu]? = some (.lst (T.map .str)) := by walk_at "get"
      generalize hT2 : D.tup [.tup (t.cells.map cD), .tup (t.funs.map fuD), .tup (t.ons.map oD), bD t.main] = td2
      walk_at "go"
      rename_i pu h12 e12 g23 g24 g25 k12 du h13 e13 g26 g27 g28 k13
      have k1113 : Keep [] h11 h13 := by walk_at "keep"
      refine tn_ok n b dp du _ _ f nul _ _ _ (by omega) b1 (by omega) (dt11.mono k1113 List.not_mem_nil) (dt_nil e13) fun h14 k14 => ?_
      have k014 : Keep [] h h14 := by
        have q1 : Keep [] h9 h14 := by walk_at "keep"
        walk_at "keep"
      have W2 := W h14 k014
      have ec : Mi.cutD (T.map D.str) none (some ((ps.map D.str).length : Nat)) = (ps.map (gd f)).map D.str := by
        unfold Mi.cutD
        rw [HT.sIx_nat, HT.sIx_none, List.drop_zero, Nat.sub_zero, lp, Nat.min_eq_left (by rw [lT2, ← hTT, List.length_map]; unfold own; simp), ← hTT]
        unfold own
        rw [List.map_append, List.map_append]
        exact List.take_left' (by simp)
      rw [ec]
      subst hT2
      conv => whnf
      exact wp_ok (t := t) (P := P) (ps := ps.map (gd f)) (b := St.rens (gd f) (gd nul) b) (by omega) o e W2
    · have := w2 fi h6 (by walk_at "keep")
      walk_at "go"
      exact this

end Lw

set_option Elab.async false
set_option linter.all false
set_option maxRecDepth 100000
set_option maxHeartbeats 1000000
namespace Lw
open PySem PySem.Spec PyProof.Rows L2 Mi
local macro_rules | `(tactic| walk_at "mem") => `(tactic| first | exact fun _ z => absurd z List.not_mem_nil | exact List.not_mem_nil | (intro i hi; simp only [List.mem_cons, List.not_mem_nil, or_false, false_or] at hi ⊢; omega) | (simp only [List.mem_cons, List.not_mem_nil, or_false, false_or, not_or]; omega))
local macro_rules | `(tactic| walk_at "get") => `(tactic| first | assumption | (apply Keep.get; assumption; walk_at "get"; walk_at "mem"))
local macro_rules | `(tactic| walk_at "keep") => `(tactic| first | assumption | exact Keep.refl | (apply Keep.step; assumption; walk_at "keep"; walk_at "mem"))
local macro_rules | `(tactic| walk_at "one") => `(tactic| (conv => whnf) <;> first
  | (apply br_t; rfl)
  | (apply br_f; rfl)
  | (apply rdO_i; walk_at "get")
  | (apply itm_i; first | rfl | assumption | exact getAt_end _ _)
  | (apply gtD_i; assumption)
  | (apply new_i; intro p h' e1 l1 l2 l3 k)
  | (apply put_i; walk_at "get"; intro h' e1 l1 k)
  | (apply iLst_i; first | rfl | exact intsOf_map _)
  | (apply chk_i; first | rfl | exact lenOk_le (by simp only [List.length_map, List.length_cons, List.length_append, List.length_take, List.length_nil, List.length_replicate, List.length_dropLast]; omega) | exact small_lt (by simp only [List.length_map, List.length_cons, List.length_append, List.length_take, List.length_nil, List.length_replicate, List.length_dropLast]; omega) | assumption | exact mulOk_r (by decide) | exact mulOk_l (by decide) | exact lenOk_le (by omega) | exact small_lt (by omega) | (simp; omega)))
local macro_rules | `(tactic| walk_at "go") => `(tactic| (repeat walk_at "one"); try (conv => whnf))
local macro_rules | `(tactic| walk_at "br") => `(tactic| (refine br_i (fun hc => ?_) (fun hc => ?_) <;> simp only [Bool.not_eq_true', Bool.not_eq_false', beq_iff_eq, beq_eq_false_iff_ne, ne_eq, decide_eq_true_eq, decide_eq_false_iff_not, bne_iff_ne, bne_eq_false_iff_eq] at hc) <;> first | (exfalso; omega) | walk_at "go")

theorem rl_no {n : Nat} {t : Tr} {d x : D} {h : Hh} {Q : Kd} {X : Ex} (hn : 3 ≤ n) (o : t.nm) (a : t.ap) (hd : kS d = true) (no : ∀ z, d = .str z → z ∉ t.funs.map pnF ++ t.ons.map pnO ++ [w_main])
    (w : ∀ h', Keep [] h h' → bad X w_part h') : rn n i_renamed_locals [t.d, d, x] h Q X := by
  cases n with
  | zero => omega
  | succ n =>
    have l1 : (t.cells.map cD).length = t.cells.length := List.length_map ..
    have l2 : (t.cells.map pnC).length = t.cells.length := List.length_map ..
    refine u_renamed_locals ?_
    have BAD : ∀ (k : Int) h', k < t.cells.length → Keep [] h h' → wB gls (rn n) X c_renamed_locals_9 (R0 Q) [some t.d, some d, some x, some (.int k), none, none, none, none, none, none, none] h' := fun k h' hk kk => by
      have := w h' kk
      unfold Tr.d
      conv => whnf
      refine itm_i rfl ?_
      conv => whnf
      refine br_t (decide_eq_true (show k < ((t.cells.map cD).length : Nat) by rw [l1]; exact hk)) ?_
      walk_at "go"
      exact this
    conv => whnf
    refine pno_ok (by omega) o a hd (fun z' j h1 ez ej k1 => ?_) (fun h1 no' k1 => BAD _ h1 (by omega) k1)
    refine BAD _ h1 ?_ k1
    by_cases hj : j < t.cells.length
    · omega
    · exfalso
      unfold pnames at ej
      rw [List.append_assoc, List.append_assoc, List.getElem?_append_right (by omega)] at ej
      exact no z' ez (by rw [List.append_assoc]; exact List.mem_of_getElem? ej)
theorem td_ok {n : Nat} {t : Tr} {P : Pt} {z : Str} {ps : List Str} {b : List St} {prs : List (Str × D)} {h : Hh} {Q : Kd} {X : Ex} (hn : 31 ≤ n) (o : t.nm) (a : t.ap) (e : P.at_ t = some (z, ps, b)) (bo : bOk b) (hps : ps.length ≤ 3) (ln : (own ps b).length < 3500)
    (hk : ∀ p ∈ prs, kS p.2 = true ∧ ∀ z, p.2 = .str z → z.length ≤ 100) (hl : prs.length < 3500)
    (w1 : fine (own ps b) prs = true → clash t ((own ps b).map (gd (tabP prs))) = false → ∀ h', Keep [] h h' → Q (told (P.put t (ps.map (gd (tabP prs))) (St.rens (gd (tabP prs)) (gd nul) b)).d) h')
    (w2 : fine (own ps b) prs = false → ∀ h', Keep [] h h' → Q (refused w_name) h')
    (w3 : fine (own ps b) prs = true → clash t ((own ps b).map (gd (tabP prs))) = true → ∀ h', Keep [] h h' → Q (refused w_taken) h') : rn n i_law_tried [t.d, .str z, .tup (prs.map gpD)] h Q X := by
  cases n with
  | zero => omega
  | succ n =>
    refine u_law_tried ?_
    generalize ht : t.d = td
    walk_at "go"
    subst ht
    refine rl_ok (by omega) o a e bo hps ln hk hl (fun f c h' k => ?_) (fun f h' k => bad_ok (w2 f h' k)) (fun f c h' k => bad_ok (w3 f c h' k))
    have := w1 f c h' k
    generalize Tr.d (P.put t (ps.map (gd (tabP prs))) (St.rens (gd (tabP prs)) (gd nul) b)) = rd at this ⊢
    walk_at "go"
    exact this
theorem td_no {n : Nat} {t : Tr} {d x : D} {h : Hh} {Q : Kd} {X : Ex} (hn : 4 ≤ n) (o : t.nm) (a : t.ap) (hd : kS d = true) (no : ∀ z, d = .str z → z ∉ t.funs.map pnF ++ t.ons.map pnO ++ [w_main])
    (w : ∀ h', Keep [] h h' → Q (refused w_part) h') : rn n i_law_tried [t.d, d, x] h Q X := by
  cases n with
  | zero => omega
  | succ n =>
    refine u_law_tried ?_
    generalize ht : t.d = td
    walk_at "go"
    subst ht
    exact rl_no (by omega) o a hd no fun h' k => bad_ok (w h' k)
/-! ### the law's own renaming -/
def dF (z : Str) (f : Tab) (g : Str × List Str × List St) : Str × List Str × List St := if pnF g = z then (g.1, g.2.1.map (gd f), St.rens (gd f) (gd nul) g.2.2) else g
def dO (z : Str) (f : Tab) (o : Int × List St) : Int × List St := if pnO o = z then (o.1, St.rens (gd f) (gd nul) o.2) else o
def dueT (t : Tr) (z : Str) (f : Tab) : Tr := ⟨t.cells, t.funs.map (dF z f), t.ons.map (dO z f), if z = w_main then St.rens (gd f) (gd nul) t.main else t.main⟩
theorem map_same {α : Type} {g : α → α} {xs : List α} (h : ∀ x ∈ xs, g x = x) : xs.map g = xs := by
  conv => rhs; rw [← List.map_id xs]
  exact List.map_congr_left h
theorem map_set {α : Type} {g : α → α} {xs : List α} {i : Nat} {x : α} (e : xs[i]? = some x) (h : ∀ j y, xs[j]? = some y → j ≠ i → g y = y) : xs.map g = xs.set i (g x) := by
  refine List.ext_getElem? fun j => ?_
  rw [List.getElem?_map, List.getElem?_set]
  by_cases hj : i = j
  · subst hj
    have := (List.getElem?_eq_some_iff.mp e).1
    rw [if_pos rfl, if_pos this, e]
    rfl
  · rw [if_neg hj]
    cases hy : xs[j]? with
    | none => rfl
    | some y => rw [Option.map_some, h j y hy fun q => hj q.symm]
theorem dueT_eq {t : Tr} {P : Pt} {z : Str} {ps : List Str} {b : List St} {f : Tab} (o : t.nm) (a : t.ap) (e : P.at_ t = some (z, ps, b)) : dueT t z f = P.put t (ps.map (gd f)) (St.rens (gd f) (gd nul) b) := by
  have H : ∀ (x y : Str) (c d : Nat), x.cps.toList.head? = some c → y.cps.toList.head? = some d → c ≠ d → x ≠ y := fun x y c d e1 e2 n q => by
    rw [q, e2] at e1
    exact n (Option.some.inj e1).symm
  unfold dueT
  cases P with
  | fn i =>
    simp only [Pt.at_, Option.map_eq_some_iff, Prod.mk.injEq] at e
    obtain ⟨g, eg, rfl, rfl, rfl⟩ := e
    simp only [Pt.put, eg]
    have e1 : t.funs.map (dF (pnF g) f) = t.funs.set i (g.1, g.2.1.map (gd f), St.rens (gd f) (gd nul) g.2.2) := by
      rw [map_set eg fun j y ey hj => ?_]
      · unfold dF
        rw [if_pos rfl]
      · unfold dF
        rw [if_neg fun q => hj ?_]
        have nd : (t.funs.map pnF).Nodup := nodup_map2 a.f fun x _ y _ e => str_app_inj e
        exact nodup_at nd (x := pnF y) (by rw [List.getElem?_map, ey]; rfl) (by rw [List.getElem?_map, eg, q]; rfl)
    have e2 : t.ons.map (dO (pnF g) f) = t.ons := map_same fun x _ => if_neg (H _ _ 111 102 (pnO_hd x) (pnF_hd g) (by decide))
    rw [e1, e2, if_neg (H _ _ 102 109 (pnF_hd g) pnM_hd (by decide))]
  | on i =>
    simp only [Pt.at_, Option.map_eq_some_iff, Prod.mk.injEq] at e
    obtain ⟨g, eg, rfl, rfl, rfl⟩ := e
    simp only [Pt.put, eg]
    have e1 : t.ons.map (dO (pnO g) f) = t.ons.set i (g.1, St.rens (gd f) (gd nul) g.2) := by
      rw [map_set eg fun j y ey hj => ?_]
      · unfold dO
        rw [if_pos rfl]
      · unfold dO
        rw [if_neg fun q => hj ?_]
        have nd : (t.ons.map pnO).Nodup := nodup_map2 a.o fun x hx y hy e => st_injI (o.o x hx).1 (o.o y hy).1 (str_app_inj e)
        exact nodup_at nd (x := pnO y) (by rw [List.getElem?_map, ey]; rfl) (by rw [List.getElem?_map, eg, q]; rfl)
    have e2 : t.funs.map (dF (pnO g) f) = t.funs := map_same fun x _ => if_neg (H _ _ 102 111 (pnF_hd x) (pnO_hd g) (by decide))
    rw [e1, e2, if_neg (H _ _ 111 109 (pnO_hd g) pnM_hd (by decide))]
  | main =>
    simp only [Pt.at_, Option.some.injEq, Prod.mk.injEq] at e
    obtain ⟨rfl, rfl, rfl⟩ := e
    simp only [Pt.put]
    have e1 : t.funs.map (dF w_main f) = t.funs := map_same fun x _ => if_neg (H _ _ 102 109 (pnF_hd x) pnM_hd (by decide))
    have e2 : t.ons.map (dO w_main f) = t.ons := map_same fun x _ => if_neg (H _ _ 111 109 (pnO_hd x) pnM_hd (by decide))
    rw [e1, e2, if_pos trivial]
theorem due_ok {n : Nat} {t : Tr} {z : Str} {f : Tab} {q m : Nat} {h : Hh} {Q : Kd} {X : Ex} (hn : 20 ≤ n) (o : t.ok) (nm : t.nm) (dt : DT h q f m) (w : ∀ h', Keep [] h h' → Q (dueT t z f).d h') : rn n i_law_due [t.d, .str z, .ref q] h Q X := by
  cases n with
  | zero => omega
  | succ n =>
    have c1 := o.f
    have c2 := o.o
    have wl1 : w_fun_.length = 4 := rfl
    have wl2 : w_on_.length = 3 := rfl
    have hq := dt.lt
    refine u_law_due ?_
    unfold Tr.d
    generalize hT : D.tup [.tup (t.cells.map cD), .tup (t.funs.map fuD), .tup (t.ons.map oD), bD t.main] = td
    have W0 : wB gls (rn n) X c_law_due_6 (R0 Q) [some td, some (.str z), some (.ref q), some (.tup (t.cells.map cD)), some (.tup (t.funs.map fuD)), some (.tup (t.ons.map oD)), some (bD t.main), none, none, none, none, none, none, none] h → wB gls (rn n) X b_law_due (R0 Q) [some td, some (.str z), some (.ref q), none, none, none, none, none, none, none, none, none, none, none] h := fun w => by
      rw [← hT] at w ⊢
      exact w
    refine W0 ?_
    walk_at "go"
    rename_i p h1 e1 g1 g2 g3 k1
    refine loop_i (I := fun rr σ h' => ∃ (z1 z2 : List (Str × List Str × List St)) (x8 x9 x10 x11 x12 x13 : Option D), t.funs = z1 ++ z2 ∧ rr = z2.map fuD ∧ σ = [some td, some (.str z), some (.ref q), some (.tup (t.cells.map cD)), some (.tup (t.funs.map fuD)), some (.tup (t.ons.map oD)), some (bD t.main), some (.ref p), x8, x9, x10, x11, x12, x13] ∧ h'[p]? = some (.lst ((z1.map (dF z f)).map fuD)) ∧ h1.length ≤ h'.length ∧ Keep [p] h1 h') ?_ ?_ _ _ _ ⟨[], t.funs, _, _, _, _, _, _, rfl, rfl, rfl, e1, Nat.le_refl _, Keep.refl⟩
    · rintro x rr σ h2 K ⟨z1, z2, x8, x9, x10, x11, x12, x13, ez, er, rfl, ep, l2, k2⟩ hK
      cases z2 with
      | nil => cases er
      | cons g z2 =>
        simp only [List.map_cons, List.cons.injEq] at er
        obtain ⟨rfl, rfl⟩ := er
        have mg : g ∈ t.funs := by rw [ez]; simp
        obtain ⟨⟨p1, p2⟩, b1, b2, b3⟩ := o.fb g mg
        have hnm := nm.f g mg
        have hl := congrArg List.length ez
        simp only [List.length_append, List.length_cons] at hl
        have hp := lt_of ep
        have lz : ((z1.map (dF z f)).map fuD).length = z1.length := by simp
        have FIN : ∀ y8 y9 y10 y11 y12 y13 h3, h3[p]? = some (.lst ((z1.map (dF z f)).map fuD ++ [fuD (dF z f g)])) → h2.length ≤ h3.length → Keep [p] h2 h3 → K [some td, some (.str z), some (.ref q), some (.tup (t.cells.map cD)), some (.tup (t.funs.map fuD)), some (.tup (t.ons.map oD)), some (bD t.main), some (.ref p), y8, y9, y10, y11, y12, y13] h3 := fun y8 y9 y10 y11 y12 y13 h3 e3 l3 k3 =>
          hK _ _ ⟨z1 ++ [g], z2, y8, y9, y10, y11, y12, y13, by rw [ez]; simp, rfl, rfl, by rw [e3, List.map_append, List.map_append]; rfl, by omega, by walk_at "keep"⟩
        generalize hF : t.funs.map fuD = FF at hK FIN ⊢
        have dt2 : DT h2 q f m := dt.mono (show Keep [p] h h2 by walk_at "keep") (by simp; omega)
        unfold fuD
        walk_at "go"
        refine br_i (fun hc => ?_) (fun hc => ?_)
        · have ec : pnF g = z := strEq_iff.mp hc
          have eF : dF z f g = (g.1, g.2.1.map (gd f), St.rens (gd f) (gd nul) g.2.2) := if_pos ec
          rw [eF] at FIN
          walk_at "go"
          rename_i u h3 e3 g4 g5 g6 k3
          refine map_i D.str (fun x => .str (gd f x)) g.2.1 e3 (by omega) (fun x mx h4 K4 N k4 hK4 => ?_) fun h4 e4 k4 => ?_
          · obtain ⟨kvs, ek, ak, nk, lk⟩ := (dt2.mono k3 List.not_mem_nil).mono k4 (by have := dt2.lt; simp; omega)
            walk_at "go"
            rw [DT.gd ak x]
            exact hK4 _ Keep.refl
          have k24 : Keep [] h2 h4 := by walk_at "keep"
          have ep4 := k24.get ep List.not_mem_nil
          walk_at "go"
          rename_i du h5 e5 g7 g8 g9 k5
          have k25 : Keep [] h2 h5 := by walk_at "keep"
          refine ib_ok n g.2.2 q du m 0 f nul _ _ _ (by omega) b1 (by omega) (dt2.mono k25 List.not_mem_nil) (dt_nil e5) fun h6 k6 => ?_
          have k26 : Keep [] h2 h6 := by walk_at "keep"
          have ep6 := k26.get ep List.not_mem_nil
          have l26 := k26.len
          walk_at "go"
          rename_i h7 e7 l7 k7
          exact FIN _ _ _ _ _ _ h7 (by rw [e7]; simp only [fuD, List.map_map]; rfl) (by omega) (by walk_at "keep")
        · have ec : ¬ pnF g = z := fun q => by rw [show strEq (w_fun_ ++ g.1) z = true from strEq_iff.mpr q] at hc; cases hc
          have eF : dF z f g = g := if_neg ec
          rw [eF] at FIN
          walk_at "go"
          rename_i h7 e7 l7 k7
          exact FIN _ _ _ _ _ _ h7 e7 (by omega) k7
    · rintro σ h2 ⟨z1, z2, x8, x9, x10, x11, x12, x13, ez, er, rfl, ep, l2, k2⟩
      have : z2 = [] := List.map_eq_nil_iff.mp er.symm
      subst this
      rw [List.append_nil] at ez
      rw [← ez] at ep
      have hp := lt_of ep
      have dt2 : DT h2 q f m := dt.mono (show Keep [p] h h2 by walk_at "keep") (by simp; omega)
      have k02 : Keep [] h h2 := by walk_at "keep"
      walk_at "go"
      rename_i u h3 e3 g4 g5 g6 k3
      refine map_i oD (fun x => oD (dO z f x)) t.ons e3 (by omega) (fun x mx h4 K4 N k4 hK4 => ?_) fun h4 e4 k4 => ?_
      · obtain ⟨b1, b2, b3⟩ := o.ob x mx
        obtain ⟨q1, q2⟩ := nm.o x mx
        have hst := st_one q1 (by omega)
        have dt4 : DT h4 q f m := (dt2.mono k3 List.not_mem_nil).mono k4 (by have := dt2.lt; simp; omega)
        unfold oD
        walk_at "go"
        refine chk_i (lenOk_le (by show w_on_.length + (st x.1).length ≤ _; omega)) ?_
        conv => whnf
        refine br_i (fun hc => ?_) (fun hc => ?_)
        · have ec : pnO x = z := strEq_iff.mp hc
          have eO : dO z f x = (x.1, St.rens (gd f) (gd nul) x.2) := if_pos ec
          rw [eO] at hK4
          walk_at "go"
          rename_i du h5 e5 g7 g8 g9 k5
          refine ib_ok n x.2 q du m 0 f nul _ _ _ (by omega) b1 (by omega) (dt4.mono k5 List.not_mem_nil) (dt_nil e5) fun h6 k6 => ?_
          walk_at "go"
          exact hK4 _ (by walk_at "keep")
        · have ec : ¬ pnO x = z := fun q => by rw [show strEq (w_on_ ++ Str.ofString (toString x.1)) z = true from strEq_iff.mpr q] at hc; cases hc
          have eO : dO z f x = x := if_neg ec
          rw [eO] at hK4
          walk_at "go"
          exact hK4 _ Keep.refl
      have k24 : Keep [] h2 h4 := by walk_at "keep"
      have dt4 : DT h4 q f m := dt2.mono k24 List.not_mem_nil
      have ep4 := k24.get ep List.not_mem_nil
      have eo4 : h4[u]? = some (.lst ((t.ons.map (dO z f)).map oD)) := by rw [e4, List.map_map]; rfl
      have k04 : Keep [] h h4 := by walk_at "keep"
      obtain ⟨b1, b2, b3⟩ := o.m
      walk_at "go"
      refine br_i (fun hc => ?_) (fun hc => ?_)
      · have ec : z = w_main := strEq_iff.mp hc
        walk_at "go"
        rename_i du h5 e5 g7 g8 g9 k5
        refine ib_ok n t.main q du m 0 f nul _ _ _ (by omega) b1 (by omega) (dt4.mono k5 List.not_mem_nil) (dt_nil e5) fun h6 k6 => ?_
        have W := w h6 (by walk_at "keep")
        unfold dueT at W
        rw [if_pos ec] at W
        walk_at "go"
        exact W
      · have ec : ¬ z = w_main := fun q => by rw [show strEq z w_main = true from strEq_iff.mpr q] at hc; cases hc
        have W := w h4 k04
        unfold dueT at W
        rw [if_neg ec] at W
        walk_at "go"
        exact W

end Lw

set_option Elab.async false
set_option linter.all false
set_option maxRecDepth 100000
set_option maxHeartbeats 1000000
namespace Lw
open PySem PySem.Spec PyProof.Rows L2 Mi
local macro_rules | `(tactic| walk_at "mem") => `(tactic| first | exact fun _ z => absurd z List.not_mem_nil | exact List.not_mem_nil | (intro i hi; simp only [List.mem_cons, List.not_mem_nil, or_false, false_or] at hi ⊢; omega) | (simp only [List.mem_cons, List.not_mem_nil, or_false, false_or, not_or]; omega))
local macro_rules | `(tactic| walk_at "get") => `(tactic| first | assumption | (apply Keep.get; assumption; walk_at "get"; walk_at "mem"))
local macro_rules | `(tactic| walk_at "keep") => `(tactic| first | assumption | exact Keep.refl | (apply Keep.step; assumption; walk_at "keep"; walk_at "mem"))
local macro_rules | `(tactic| walk_at "one") => `(tactic| (conv => whnf) <;> first
  | (apply br_t; rfl)
  | (apply br_f; rfl)
  | (apply rdO_i; walk_at "get")
  | (apply itm_i; first | rfl | assumption | exact getAt_end _ _)
  | (apply gtD_i; assumption)
  | (apply new_i; intro p h' e1 l1 l2 l3 k)
  | (apply put_i; walk_at "get"; intro h' e1 l1 k)
  | (apply iLst_i; first | rfl | exact intsOf_map _)
  | (apply chk_i; first | rfl | exact lenOk_le (by simp only [List.length_map, List.length_cons, List.length_append, List.length_take, List.length_nil, List.length_replicate, List.length_dropLast]; omega) | exact small_lt (by simp only [List.length_map, List.length_cons, List.length_append, List.length_take, List.length_nil, List.length_replicate, List.length_dropLast]; omega) | assumption | exact mulOk_r (by decide) | exact mulOk_l (by decide) | exact lenOk_le (by omega) | exact small_lt (by omega) | (simp; omega)))
local macro_rules | `(tactic| walk_at "go") => `(tactic| (repeat walk_at "one"); try (conv => whnf))
local macro_rules | `(tactic| walk_at "br") => `(tactic| (refine br_i (fun hc => ?_) (fun hc => ?_) <;> simp only [Bool.not_eq_true', Bool.not_eq_false', beq_iff_eq, beq_eq_false_iff_ne, ne_eq, decide_eq_true_eq, decide_eq_false_iff_not, bne_iff_ne, bne_eq_false_iff_eq] at hc) <;> first | (exfalso; omega) | walk_at "go")

/-! ### the parts of a tree -/
def prtD (x : Str × Nat × List Str) : D := .tup [.str x.1, .ref x.2.1]
def nmOf (x : Str × Nat × List Str) : Str × List Str := (x.1, x.2.2)
def partF (f : Str × List Str × List St) : Str × List Str := (pnF f, own f.2.1 f.2.2)
def partO (o : Int × List St) : Str × List Str := (pnO o, own [] o.2)
def partsOf (t : Tr) : List (Str × List Str) := t.funs.map partF ++ t.ons.map partO ++ [(w_main, own [] t.main)]
theorem partsOf_at {t : Tr} {x : Str × List Str} (m : x ∈ partsOf t) : ∃ P ps b, Pt.at_ t P = some (x.1, ps, b) ∧ x.2 = own ps b ∧ ((∃ f ∈ t.funs, f.2.1 = ps ∧ f.2.2 = b) ∨ (ps = [] ∧ ((∃ o ∈ t.ons, o.2 = b) ∨ t.main = b))) := by
  unfold partsOf at m
  rcases List.mem_append.mp m with m | m
  · rcases List.mem_append.mp m with m | m
    · obtain ⟨f, mf, rfl⟩ := List.mem_map.mp m
      obtain ⟨i, ei⟩ := List.getElem?_of_mem mf
      exact ⟨.fn i, f.2.1, f.2.2, by simp only [Pt.at_, ei]; rfl, rfl, .inl ⟨f, mf, rfl, rfl⟩⟩
    · obtain ⟨f, mf, rfl⟩ := List.mem_map.mp m
      obtain ⟨i, ei⟩ := List.getElem?_of_mem mf
      exact ⟨.on i, [], f.2, by simp only [Pt.at_, ei]; rfl, rfl, .inr ⟨rfl, .inl ⟨f, mf, rfl⟩⟩⟩
  · obtain rfl := List.mem_singleton.mp m
    exact ⟨.main, [], t.main, rfl, rfl, .inr ⟨rfl, .inr rfl⟩⟩
/-- lists at their places -/
def Lay (h : Hh) (lo : Nat) (pl : List (Str × Nat × List Str)) : Prop := ∀ x ∈ pl, h[x.2.1]? = some (.lst (x.2.2.map .str)) ∧ lo ≤ x.2.1
theorem Lay.mono {h h' : Hh} {lo lo2 : Nat} {pl : List (Str × Nat × List Str)} {S : List Nat} (y : Lay h lo pl) (k : Keep S h h') (hS : ∀ i ∈ S, i < lo ∨ h.length ≤ i) (hl : lo2 ≤ lo) : Lay h' lo2 pl := fun x m => by
  obtain ⟨e, l⟩ := y x m
  have := lt_of e
  refine ⟨k.get e fun z => ?_, by omega⟩
  rcases hS _ z with q | q <;> omega
theorem Lay.app {h : Hh} {lo : Nat} {a b : List (Str × Nat × List Str)} (x : Lay h lo a) (y : Lay h lo b) : Lay h lo (a ++ b) := fun z m => by
  rcases List.mem_append.mp m with m | m
  · exact x z m
  · exact y z m
theorem parts_ok {n : Nat} {t : Tr} {h : Hh} {Q : Kd} {X : Ex} (hn : 20 ≤ n) (o : t.ok) (nm : t.nm)
    (w : ∀ p pl h', h'[p]? = some (.lst (pl.map prtD)) → pl.map nmOf = partsOf t → Lay h' h.length pl → h.length ≤ p → Keep [] h h' → Q (.ref p) h') : rn n i_law_parts [t.d] h Q X := by
  cases n with
  | zero => omega
  | succ n =>
    have c1 := o.f
    have c2 := o.o
    have wl1 : w_fun_.length = 4 := rfl
    have wl2 : w_on_.length = 3 := rfl
    refine u_law_parts ?_
    unfold Tr.d
    walk_at "go"
    rename_i p h1 e1 g1 g2 g3 k1
    refine comp_i (I := fun r acc h' => ∃ z1 z2 pl, t.funs = z1 ++ z2 ∧ r = z2.map fuD ∧ acc = pl.map prtD ∧ pl.map nmOf = z1.map partF ∧ Lay h' h1.length pl ∧ h1.length ≤ h'.length ∧ Keep [p] h1 h') ?_ ?_ _ _ _ e1 ⟨[], t.funs, [], rfl, rfl, rfl, rfl, fun _ m => absurd m List.not_mem_nil, Nat.le_refl _, Keep.refl⟩
    · rintro x r acc h2 K e2 ⟨z1, z2, pl, ez, er, rfl, en, ly, l2, k2⟩ hK
      cases z2 with
      | nil => cases er
      | cons g z2 =>
        simp only [List.map_cons, List.cons.injEq] at er
        obtain ⟨rfl, rfl⟩ := er
        have mg : g ∈ t.funs := by rw [ez]; simp
        obtain ⟨⟨p1, p2⟩, b1, b2, b3⟩ := o.fb g mg
        have hnm := nm.f g mg
        have hl := congrArg List.length ez
        have hle := congrArg List.length en
        simp only [List.length_append, List.length_cons, List.length_map] at hl hle
        have lp : (pl.map prtD).length = pl.length := List.length_map ..
        have lb := bvars_len g.2.2
        have lv : ((St.bvars g.2.2).map D.str).length = (St.bvars g.2.2).length := List.length_map ..
        have lo1 : (g.2.1.map D.str).length = g.2.1.length := List.length_map ..
        unfold fuD
        walk_at "go"
        rename_i u h3 e3 g4 g5 g6 k3
        refine lv_ok n g.2.2 _ _ _ (by omega) b1 (by omega) fun v h4 e4 l4 k4 => ?_
        have e34 := k4.get e3 List.not_mem_nil
        have g7 := lt_of e4
        have g8 := lt_of e34
        walk_at "go"
        rename_i s h5 e5 g9 g10 g11 k5 h6 e6 l6 k6
        have hp := lt_of e2
        refine hK _ _ e6 ⟨z1 ++ [g], z2, pl ++ [(pnF g, s, own g.2.1 g.2.2)], by rw [ez]; simp, rfl, by rw [List.map_append]; rfl, by rw [List.map_append, en, List.map_append]; rfl, ?_, by omega, by walk_at "keep"⟩
        refine Lay.app (ly.mono (show Keep [p] h2 h6 by walk_at "keep") (fun i m => by rw [List.mem_singleton.mp m]; omega) (Nat.le_refl _)) fun x m => ?_
        obtain rfl := List.mem_singleton.mp m
        refine ⟨k6.get (by rw [e5]; simp only [own, List.map_append]) (by simp; omega), ?_⟩
        show h1.length ≤ s
        omega
    rintro acc h2 e2 ⟨z1, z2, pl, ez, er, rfl, en, ly, l2, k2⟩
    have : z2 = [] := List.map_eq_nil_iff.mp er.symm
    subst this
    rw [List.append_nil] at ez
    rw [← ez] at en
    have hp := lt_of e2
    have hle := congrArg List.length en
    simp only [List.length_map] at hle
    have lp : (pl.map prtD).length = pl.length := List.length_map ..
    walk_at "go"
    rename_i p2 h3 e3 g4 g5 g6 k3
    have ep3 := k3.get e2 List.not_mem_nil
    refine comp_i (I := fun r acc h' => ∃ y1 y2 ql, t.ons = y1 ++ y2 ∧ r = y2.map oD ∧ acc = ql.map prtD ∧ ql.map nmOf = y1.map partO ∧ Lay h' h3.length ql ∧ h3.length ≤ h'.length ∧ Keep [p2] h3 h') ?_ ?_ _ _ _ e3 ⟨[], t.ons, [], rfl, rfl, rfl, rfl, fun _ m => absurd m List.not_mem_nil, Nat.le_refl _, Keep.refl⟩
    · rintro x r acc h4 K e4 ⟨y1, y2, ql, ez2, er2, rfl, en2, ly2, l4, k4⟩ hK
      cases y2 with
      | nil => cases er2
      | cons g y2 =>
        simp only [List.map_cons, List.cons.injEq] at er2
        obtain ⟨rfl, rfl⟩ := er2
        have mg : g ∈ t.ons := by rw [ez2]; simp
        obtain ⟨b1, b2, b3⟩ := o.ob g mg
        obtain ⟨q1, q2⟩ := nm.o g mg
        have hst := st_one q1 (by omega)
        have hl2 := congrArg List.length ez2
        have hle2 := congrArg List.length en2
        simp only [List.length_append, List.length_cons, List.length_map] at hl2 hle2
        have lp2 : (ql.map prtD).length = ql.length := List.length_map ..
        have hp2 := lt_of e4
        unfold oD
        walk_at "go"
        refine chk_i (lenOk_le (by show w_on_.length + (st g.1).length ≤ _; omega)) ?_
        conv => whnf
        refine lv_ok n g.2 _ _ _ (by omega) b1 (by omega) fun v h5 e5 l5 k5 => ?_
        have e45 := k5.get e4 List.not_mem_nil
        have g7 := lt_of e5
        walk_at "go"
        rename_i h6 e6 l6 k6
        refine hK _ _ e6 ⟨y1 ++ [g], y2, ql ++ [(pnO g, v, own [] g.2)], by rw [ez2]; simp, rfl, by rw [List.map_append]; rfl, by rw [List.map_append, en2, List.map_append]; rfl, ?_, by have := k5.len; omega, by walk_at "keep"⟩
        refine Lay.app (ly2.mono (show Keep [p2] h4 h6 by walk_at "keep") (fun i m => by rw [List.mem_singleton.mp m]; omega) (Nat.le_refl _)) fun x m => ?_
        obtain rfl := List.mem_singleton.mp m
        refine ⟨k6.get (by rw [e5]; rfl) (by simp; omega), ?_⟩
        show h3.length ≤ v
        omega
    rintro acc h4 e4 ⟨y1, y2, ql, ez2, er2, rfl, en2, ly2, l4, k4⟩
    have : y2 = [] := List.map_eq_nil_iff.mp er2.symm
    subst this
    rw [List.append_nil] at ez2
    rw [← ez2] at en2
    have hp2 := lt_of e4
    have hle2 := congrArg List.length en2
    simp only [List.length_map] at hle2
    have lp2 : (ql.map prtD).length = ql.length := List.length_map ..
    have ep4 := k4.get ep3 (by simp; omega)
    have ly4 : Lay h4 h1.length pl := ly.mono (show Keep [p2] h2 h4 by walk_at "keep") (fun i m => by rw [List.mem_singleton.mp m]; omega) (Nat.le_refl _)
    obtain ⟨b1, b2, b3⟩ := o.m
    walk_at "go"
    rename_i s h5 e5 g7 g8 g9 k5
    refine lv_ok n t.main _ _ _ (by omega) b1 (by omega) fun v h6 e6 l6 k6 => ?_
    have e56 := k6.get e5 List.not_mem_nil
    have g10 := lt_of e56
    walk_at "go"
    rename_i s2 h7 e7 g11 g12 g13 k7 s3 h8 e8 g14 g15 g16 k8
    have k48 : Keep [] h4 h8 := by walk_at "keep"
    have k6l := k6.len
    refine w s3 (pl ++ ql ++ [(w_main, v, own [] t.main)]) h8 (by rw [e8, List.map_append, List.map_append]; rfl) (by rw [List.map_append, List.map_append, en, en2]; rfl) ?_ (by omega) (by walk_at "keep")
    refine Lay.app (Lay.app (ly4.mono k48 (fun i m => absurd m List.not_mem_nil) (by omega)) (ly2.mono k48 (fun i m => absurd m List.not_mem_nil) (by omega))) fun x m => ?_
    obtain rfl := List.mem_singleton.mp m
    refine ⟨k8.get (k7.get (by rw [e6]; rfl) List.not_mem_nil) List.not_mem_nil, ?_⟩
    show h.length ≤ v
    omega

end Lw

set_option Elab.async false
set_option linter.all false
set_option maxRecDepth 100000
set_option maxHeartbeats 1000000
namespace Lw
open PySem PySem.Spec PyProof.Rows L2 Mi
local macro_rules | `(tactic| walk_at "mem") => `(tactic| first | exact fun _ z => absurd z List.not_mem_nil | exact List.not_mem_nil | (intro i hi; simp only [List.mem_cons, List.not_mem_nil, or_false, false_or] at hi ⊢; omega) | (simp only [List.mem_cons, List.not_mem_nil, or_false, false_or, not_or]; omega))
local macro_rules | `(tactic| walk_at "get") => `(tactic| first | assumption | (apply Keep.get; assumption; walk_at "get"; walk_at "mem"))
local macro_rules | `(tactic| walk_at "keep") => `(tactic| first | assumption | exact Keep.refl | (apply Keep.step; assumption; walk_at "keep"; walk_at "mem"))
local macro_rules | `(tactic| walk_at "one") => `(tactic| (conv => whnf) <;> first
  | (apply br_t; rfl)
  | (apply br_f; rfl)
  | (apply rdO_i; walk_at "get")
  | (apply itm_i; first | rfl | assumption | exact getAt_end _ _)
  | (apply gtD_i; assumption)
  | (apply new_i; intro p h' e1 l1 l2 l3 k)
  | (apply put_i; walk_at "get"; intro h' e1 l1 k)
  | (apply iLst_i; first | rfl | exact intsOf_map _)
  | (apply chk_i; first | rfl | exact lenOk_le (by simp only [List.length_map, List.length_cons, List.length_append, List.length_take, List.length_nil, List.length_replicate, List.length_dropLast]; omega) | exact small_lt (by simp only [List.length_map, List.length_cons, List.length_append, List.length_take, List.length_nil, List.length_replicate, List.length_dropLast]; omega) | assumption | exact mulOk_r (by decide) | exact mulOk_l (by decide) | exact lenOk_le (by omega) | exact small_lt (by omega) | (simp; omega)))
local macro_rules | `(tactic| walk_at "go") => `(tactic| (repeat walk_at "one"); try (conv => whnf))
local macro_rules | `(tactic| walk_at "br") => `(tactic| (refine br_i (fun hc => ?_) (fun hc => ?_) <;> simp only [Bool.not_eq_true', Bool.not_eq_false', beq_iff_eq, beq_eq_false_iff_ne, ne_eq, decide_eq_true_eq, decide_eq_false_iff_not, bne_iff_ne, bne_eq_false_iff_eq] at hc) <;> first | (exfalso; omega) | walk_at "go")

/-! ### drawn pairs -/
def qD (q : Str × Str) : D := .tup [.str q.1, .str q.2]
/-- what drawn pairs are: old names of the part, each but once; new ones old ones or fresh, each but once -/
structure GP (nr nr' : Nat) (xs : List Str) (qs : List (Str × Str)) : Prop where
  k : (qs.map (·.1)).Nodup
  i : ∀ q ∈ qs, q.1 ∈ xs
  v : (qs.map (·.2)).Nodup
  n : ∀ q ∈ qs, q.2 ∈ qs.map (·.1) ∨ ∃ k, nr < k ∧ k ≤ nr' ∧ Nm q.2 k
theorem rot_perm (ys : List Str) : (ys.drop 1 ++ ys.take 1).Perm ys := by
  have := List.perm_append_comm (l₁ := ys.drop 1) (l₂ := ys.take 1)
  rwa [List.take_append_drop] at this
theorem rot_at {ys : List Str} {k : Nat} (h : k < ys.length) : (ys.drop 1 ++ ys.take 1)[k]? = ys[(k + 1) % ys.length]? := by
  have l1 : (ys.drop 1).length = ys.length - 1 := List.length_drop ..
  by_cases e : k + 1 = ys.length
  · rw [List.getElem?_append_right (by omega), l1, e, Nat.mod_self, show k - (ys.length - 1) = 0 by omega, List.getElem?_take_of_lt (by omega)]
  · rw [List.getElem?_append_left (by omega), List.getElem?_drop, Nat.mod_eq_of_lt (by omega), Nat.add_comm]
theorem map_fst_zip {α β : Type} : ∀ {xs : List α} {ys : List β}, xs.length = ys.length → (xs.zip ys).map (·.1) = xs ∧ (xs.zip ys).map (·.2) = ys
  | [], [], _ => ⟨rfl, rfl⟩
  | x :: xs, y :: ys, h => by
    obtain ⟨a, b⟩ := map_fst_zip (xs := xs) (ys := ys) (by simpa using h)
    exact ⟨by rw [List.zip_cons_cons, List.map_cons, a], by rw [List.zip_cons_cons, List.map_cons, b]⟩
theorem gp_rot {nr nr' : Nat} {xs ys : List Str} (nx : xs.Nodup) (s : ys.Sublist xs) : GP nr nr' xs (ys.zip (ys.drop 1 ++ ys.take 1)) := by
  have p := rot_perm ys
  obtain ⟨e1, e2⟩ := map_fst_zip (xs := ys) (ys := ys.drop 1 ++ ys.take 1) p.length_eq.symm
  have ny := nx.sublist s
  refine ⟨by rw [e1]; exact ny, fun q m => s.subset (by rw [← e1]; exact List.mem_map_of_mem m), by rw [e2]; exact p.nodup_iff.mpr ny, fun q m => .inl ?_⟩
  rw [e1]
  exact p.mem_iff.mp (by rw [← e2]; exact List.mem_map_of_mem m)
/-- pairs on the way: old names that were met, new ones fresh or the old one itself -/
structure GW (nr nr' : Nat) (zs : List Str) (qs : List (Str × Str)) : Prop where
  k : qs.map (·.1) = zs
  v : (qs.map (·.2)).Nodup
  n : ∀ q ∈ qs, q.2 = q.1 ∨ ∃ k, nr < k ∧ k ≤ nr' ∧ Nm q.2 k
theorem GW.nil {nr : Nat} : GW nr nr [] [] := ⟨rfl, List.nodup_nil, fun _ m => absurd m List.not_mem_nil⟩
theorem GW.fresh {nr nr' : Nat} {zs : List Str} {qs : List (Str × Str)} {x y : Str} (g : GW nr nr' zs qs) (hz : ∀ z ∈ zs, ∃ k, k ≤ nr ∧ Nm z k) (hn : nr ≤ nr') (hy : Nm y (nr' + 1)) : GW nr (nr' + 1) (zs ++ [x]) (qs ++ [(x, y)]) := by
  refine ⟨by rw [List.map_append, g.k]; rfl, ?_, fun q m => ?_⟩
  · rw [List.map_append]
    refine nodup_app g.v (by simp) fun v m m2 => ?_
    obtain rfl := List.mem_singleton.mp m2
    obtain ⟨q, mq, eq⟩ := List.mem_map.mp m
    rcases g.n q mq with e | ⟨k, _, k2, k3⟩
    · obtain ⟨k, k1, k2⟩ := hz q.1 (by rw [← g.k]; exact List.mem_map_of_mem mq)
      rw [← e, eq] at k2
      have := hy.inj k2
      omega
    · rw [eq] at k3
      have := hy.inj k3
      omega
  · rcases List.mem_append.mp m with m | m
    · rcases g.n q m with e | ⟨k, k1, k2, k3⟩
      · exact .inl e
      · exact .inr ⟨k, k1, by omega, k3⟩
    · obtain rfl := List.mem_singleton.mp m
      exact .inr ⟨nr' + 1, by omega, Nat.le_refl _, hy⟩
theorem GW.same {nr nr' nr2 : Nat} {zs : List Str} {qs : List (Str × Str)} {x : Str} (g : GW nr nr' zs qs) (hx : x ∉ zs) (hk : ∃ k, k ≤ nr ∧ Nm x k) (hn : nr' ≤ nr2) : GW nr nr2 (zs ++ [x]) (qs ++ [(x, x)]) := by
  refine ⟨by rw [List.map_append, g.k]; rfl, ?_, fun q m => ?_⟩
  · rw [List.map_append]
    refine nodup_app g.v (by simp) fun v m m2 => ?_
    obtain rfl := List.mem_singleton.mp m2
    obtain ⟨q, mq, eq⟩ := List.mem_map.mp m
    rcases g.n q mq with e | ⟨k, k1, k2, k3⟩
    · exact hx (by rw [← g.k]; exact List.mem_map.mpr ⟨q, mq, by rw [← e]; exact eq⟩)
    · rw [eq] at k3
      obtain ⟨j, j1, j2⟩ := hk
      have := k3.inj j2
      omega
  · rcases List.mem_append.mp m with m | m
    · rcases g.n q m with e | ⟨k, k1, k2, k3⟩
      · exact .inl e
      · exact .inr ⟨k, k1, by omega, k3⟩
    · obtain rfl := List.mem_singleton.mp m
      exact .inl rfl
theorem GW.gp {nr nr' : Nat} {xs zs : List Str} {qs : List (Str × Str)} (g : GW nr nr' zs qs) (nz : zs.Nodup) (hz : ∀ z ∈ zs, z ∈ xs) : GP nr nr' xs qs :=
  ⟨by rw [g.k]; exact nz, fun q m => hz _ (by rw [← g.k]; exact List.mem_map_of_mem m), g.v, fun q m => by
    rcases g.n q m with e | h
    · exact .inl (by rw [e]; exact List.mem_map_of_mem m)
    · exact .inr h⟩
theorem pairs_ok {n p c r nr : Nat} {xs : List Str} {h : Hh} {Q : Kd} {X : Ex} (hn : 5 ≤ n) (pl : Pl h p c nr) (r1 : nr < 800000000) (er : h[r]? = some (.lst (xs.map .str))) (rp : r ≠ p ∧ r ≠ c) (nx : xs.Nodup) (hx : ∀ x ∈ xs, ∃ k, k ≤ nr ∧ Nm x k) (lx : xs.length < 3500)
    (w : ∀ (qs : List (Str × Str)) (nr' : Nat) (h' : Hh), GP nr nr' xs qs → qs.length ≤ xs.length → Pl h' p c nr' → nr ≤ nr' → nr' ≤ nr + xs.length → Keep [p] h h' → Q (.tup (qs.map qD)) h') : rn n i_law_pairs [.ref p, .ref r] h Q X := by
  cases n with
  | zero => omega
  | succ n =>
    have s1 := pl.lt
    have s2 := lt_of er
    obtain ⟨rp1, rp2⟩ := rp
    refine u_law_pairs ?_
    walk_at "go"
    rename_i y h1 e1 g1 g2 g3 k1
    have er1 := k1.get er List.not_mem_nil
    have lxs : (xs.map D.str).length = xs.length := List.length_map ..
    refine compL_i (xs.map .str) (I := fun z acc h' => ∃ z1 z2 ys, xs = z1 ++ z2 ∧ z = z2.map D.str ∧ acc = ys.map D.str ∧ ys.Sublist z1 ∧ Pl h' p c nr ∧ h1.length ≤ h'.length ∧ Keep [p, y] h1 h') ?_ ?_ ?_ (xs.map .str) _ _ _ _ (by simp) (fuel_lt (by omega)) e1 ⟨[], xs, [], rfl, rfl, rfl, List.Sublist.refl _, pl.mono k1 List.not_mem_nil List.not_mem_nil, Nat.le_refl _, Keep.refl⟩
    · rintro z a h2 ⟨z1, z2, ys, ez, er, ea, sb, pl2, l2, k2⟩
      exact k2.get er1 (by simp; omega)
    · rintro x z acc h2 K e2 ⟨z1, z2, ys, ez, er, rfl, sb, pl2, l2, k2⟩ hK
      cases z2 with
      | nil => cases er
      | cons zz z2 =>
        simp only [List.map_cons, List.cons.injEq] at er
        obtain ⟨rfl, rfl⟩ := er
        have hl := congrArg List.length ez
        simp only [List.length_append, List.length_cons] at hl
        have hys := sb.length_le
        have lys : (ys.map D.str).length = ys.length := List.length_map ..
        have hy := lt_of e2
        walk_at "go"
        refine take_ok pl2 (by decide) (by decide) (by omega) fun a h3 a0 a1 pl3 l3 k3 => ?_
        have e3 := k3.get e2 (by simp; omega)
        conv => whnf
        refine br_i (fun hc => ?_) (fun hc => ?_)
        · walk_at "go"
          rename_i h4 e4 l4 k4
          exact hK _ _ e4 ⟨z1 ++ [zz], z2, ys ++ [zz], by rw [ez]; simp, rfl, by rw [List.map_append]; rfl, sb.append (List.Sublist.refl _), pl3.mono k4 (by simp; omega) (by simp; omega), by omega, by walk_at "keep"⟩
        · exact hK _ _ e3 ⟨z1 ++ [zz], z2, ys, by rw [ez]; simp, rfl, rfl, sb.trans (List.sublist_append_left _ _), pl3, by omega, by walk_at "keep"⟩
    rintro acc h2 e2 ⟨z1, z2, ys, ez, er2, rfl, sb, pl2, l2, k2⟩
    have : z2 = [] := List.map_eq_nil_iff.mp er2.symm
    subst this
    rw [List.append_nil] at ez
    rw [← ez] at sb
    have hy := lt_of e2
    have lys : (ys.map D.str).length = ys.length := List.length_map ..
    have hys := sb.length_le
    have k02 : Keep [p] h h2 := by walk_at "keep"
    walk_at "go"
    refine take_ok pl2 (by decide) (by decide) (by omega) fun a h3 a0 a1 pl3 l3 k3 => ?_
    have e3 := k3.get e2 (by simp; omega)
    have k03 : Keep [p] h h3 := by walk_at "keep"
    conv => whnf
    refine br_i (fun hc => ?_) (fun hc => ?_)
    · walk_at "go"
      rename_i q h4 e4 g4 g5 g6 k4
      have e34 := k4.get e3 List.not_mem_nil
      have pl4 := pl3.mono k4 List.not_mem_nil List.not_mem_nil
      rw [show ((ys.map D.str).length : Int).toNat = ys.length by simp]
      have zl : (ys.drop 1 ++ ys.take 1).length = ys.length := (rot_perm ys).length_eq
      have zzl : (ys.zip (ys.drop 1 ++ ys.take 1)).length = ys.length := by rw [List.length_zip]; omega
      have hat : ∀ j, j < ys.length → ∃ u v, ys[j]? = some u ∧ ys[(j + 1) % ys.length]? = some v ∧ (ys.zip (ys.drop 1 ++ ys.take 1))[j]? = some (u, v) := fun j hj => by
        have hj2 : (j + 1) % ys.length < ys.length := Nat.mod_lt _ (by omega)
        refine ⟨_, _, List.getElem?_eq_getElem hj, List.getElem?_eq_getElem hj2, ?_⟩
        exact List.getElem?_zip_eq_some.mpr ⟨List.getElem?_eq_getElem hj, by rw [rot_at hj]; exact List.getElem?_eq_getElem hj2⟩
      have GG := gp_rot (nr := nr) (nr' := nr) nx sb
      generalize ys.zip (ys.drop 1 ++ ys.take 1) = qs at zzl hat GG
      refine comp_i (I := fun r acc h' => ∃ j, j ≤ ys.length ∧ r = range (ys.length - j) 0 j ∧ acc = (qs.take j).map qD ∧ h4.length ≤ h'.length ∧ Keep [q] h4 h') ?_ ?_ _ _ _ e4 ⟨0, Nat.zero_le _, rfl, rfl, Nat.le_refl _, Keep.refl⟩
      · rintro x r acc h5 K e5 ⟨j, hj, er5, rfl, l5, k5⟩ hK
        cases hm : ys.length - j with
        | zero => rw [hm] at er5; cases er5
        | succ m =>
          rw [hm] at er5
          have er' : x :: r = .int (j : Int) :: range m 0 (j + 1) := by
            rw [er5]
            show D.int (0 + (j : Int)) :: _ = _
            rw [Int.zero_add]
          obtain ⟨rfl, rfl⟩ := List.cons.inj er'
          obtain ⟨u, v, eu, ev, eq⟩ := hat j (by omega)
          have ge1 : getAt (ys.map D.str) (j : Int) = some (.str u) := getAt_nat (by rw [List.getElem?_map, eu]; rfl)
          have ge2 : getAt (ys.map D.str) (((j : Int) + 1) % ((ys.map D.str).length : Nat)) = some (.str v) := getAt_map (i := (j + 1) % ys.length) (by rw [List.getElem?_map, ev]; rfl) (by rw [lys]; rfl)
          have e55 := k5.get e34 (by simp; omega)
          have lq : ((qs.take j).map qD).length = j := by rw [List.length_map, List.length_take]; omega
          walk_at "go"
          rename_i h6 e6 l6 k6
          exact hK _ _ e6 ⟨j + 1, by omega, by rw [show ys.length - (j + 1) = m by omega], by rw [List.take_succ, eq, List.map_append]; rfl, by omega, by walk_at "keep"⟩
      · rintro acc h5 e5 ⟨j, hj, er5, rfl, l5, k5⟩
        have ej : j = ys.length := by
          cases hm : ys.length - j with
          | zero => omega
          | succ m => rw [hm] at er5; cases er5
        subst ej
        rw [← zzl, List.take_length] at e5
        have W := w qs nr h5 GG (by omega) (pl4.mono k5 (by simp; omega) (by simp; omega)) (Nat.le_refl _) (by omega) (by walk_at "keep")
        walk_at "go"
        exact W
    · conv => whnf
      refine br_i (fun hc2 => ?_) (fun hc2 => ?_)
      · walk_at "go"
        rename_i q0 h4 e4 g4 g5 g6 k4 q h5 e5 g7 g8 g9 k5
        rw [← List.map_reverse] at e4
        have e45 := k5.get e4 List.not_mem_nil
        have lrr : (ys.reverse.map D.str).length = ys.length := by simp
        have pl5 := (pl3.mono k4 List.not_mem_nil List.not_mem_nil).mono k5 List.not_mem_nil List.not_mem_nil
        have hyr : ∀ z ∈ ys.reverse, ∃ k, k ≤ nr ∧ Nm z k := fun z m => hx z (sb.subset (List.mem_reverse.mp m))
        refine compL_i (ys.reverse.map .str) (I := fun z acc h' => ∃ z1 z2 qs, ∃ nr' : Nat, ys.reverse = z1 ++ z2 ∧ z = z2.map D.str ∧ acc = qs.map qD ∧ GW nr nr' z1 qs ∧ nr' = nr + z1.length ∧ Pl h' p c nr' ∧ h5.length ≤ h'.length ∧ Keep [p, q] h5 h') ?_ ?_ ?_ (ys.reverse.map .str) _ _ _ _ (by simp) (fuel_lt (by omega)) e5 ⟨[], ys.reverse, [], nr, rfl, rfl, rfl, GW.nil, rfl, pl5, Nat.le_refl _, Keep.refl⟩
        · rintro z a h6 ⟨z1, z2, qs, nr', ez6, er6, ea6, gw, en, pl6, l6, k6⟩
          exact k6.get e45 (by simp; omega)
        · rintro x z acc h6 K e6 ⟨z1, z2, qs, nr', ez6, er6, rfl, gw, en, pl6, l6, k6⟩ hK
          cases z2 with
          | nil => cases er6
          | cons zz z2 =>
            simp only [List.map_cons, List.cons.injEq] at er6
            obtain ⟨rfl, rfl⟩ := er6
            have hl := congrArg List.length ez6
            simp only [List.length_append, List.length_cons, List.length_reverse] at hl
            have lq : (qs.map qD).length = z1.length := by rw [List.length_map, ← gw.k, List.length_map]
            have hy6 := lt_of e6
            walk_at "go"
            refine name_ok pl6 (by omega) (by omega) fun nm h7 ny pl7 l7 k7 => ?_
            have e7 := k7.get e6 (by simp; omega)
            walk_at "go"
            rename_i h8 e8 l8 k8
            exact hK _ _ e8 ⟨z1 ++ [zz], z2, qs ++ [(zz, nm)], nr' + 1, by rw [ez6]; simp, rfl, by rw [List.map_append]; rfl, gw.fresh (fun z m => hyr z (by rw [ez6]; exact List.mem_append_left _ m)) (by omega) ny, by simp only [List.length_append, List.length_singleton]; omega, pl7.mono k8 (by simp; omega) (by simp; omega), by omega, by walk_at "keep"⟩
        · rintro acc h6 e6 ⟨z1, z2, qs, nr', ez6, er6, rfl, gw, en, pl6, l6, k6⟩
          have : z2 = [] := List.map_eq_nil_iff.mp er6.symm
          subst this
          rw [List.append_nil] at ez6
          have hl := congrArg List.length ez6
          simp only [List.length_reverse] at hl
          have lq : qs.length = z1.length := by rw [← gw.k, List.length_map]
          have W := w qs nr' h6 (gw.gp (by rw [← ez6]; exact (List.reverse_perm ys).nodup_iff.mpr (nx.sublist sb)) fun z m => sb.subset (List.mem_reverse.mp (by rw [ez6]; exact m))) (by omega) pl6 (by omega) (by omega) (by walk_at "keep")
          walk_at "go"
          exact W
      · walk_at "go"
        rename_i q h5 e5 g7 g8 g9 k5
        have e45 := k5.get e3 List.not_mem_nil
        have pl5 := pl3.mono k5 List.not_mem_nil List.not_mem_nil
        have hyr : ∀ z ∈ ys, ∃ k, k ≤ nr ∧ Nm z k := fun z m => hx z (sb.subset m)
        have ny := nx.sublist sb
        refine compL_i (ys.map .str) (I := fun z acc h' => ∃ z1 z2 qs, ∃ nr' : Nat, ys = z1 ++ z2 ∧ z = z2.map D.str ∧ acc = qs.map qD ∧ GW nr nr' z1 qs ∧ nr ≤ nr' ∧ nr' ≤ nr + z1.length ∧ Pl h' p c nr' ∧ h5.length ≤ h'.length ∧ Keep [p, q] h5 h') ?_ ?_ ?_ (ys.map .str) _ _ _ _ (by simp) (fuel_lt (by omega)) e5 ⟨[], ys, [], nr, rfl, rfl, rfl, GW.nil, Nat.le_refl _, Nat.le_refl _, pl5, Nat.le_refl _, Keep.refl⟩
        · rintro z a h6 ⟨z1, z2, qs, nr', ez6, er6, ea6, gw, en, en2, pl6, l6, k6⟩
          exact k6.get e45 (by simp; omega)
        · rintro x z acc h6 K e6 ⟨z1, z2, qs, nr', ez6, er6, rfl, gw, en, en2, pl6, l6, k6⟩ hK
          cases z2 with
          | nil => cases er6
          | cons zz z2 =>
            simp only [List.map_cons, List.cons.injEq] at er6
            obtain ⟨rfl, rfl⟩ := er6
            have hl := congrArg List.length ez6
            simp only [List.length_append, List.length_cons] at hl
            have lq : (qs.map qD).length = z1.length := by rw [List.length_map, ← gw.k, List.length_map]
            have hy6 := lt_of e6
            walk_at "go"
            refine name_ok pl6 (by omega) (by omega) fun nm h7 nmk pl7 l7 k7 => ?_
            walk_at "go"
            refine take_ok pl7 (by decide) (by decide) (by omega) fun v h8 v0 v1 pl8 l8 k8 => ?_
            have e8 := k8.get (k7.get e6 (by simp; omega)) (by simp; omega)
            have hzz : zz ∉ z1 := fun m => (List.nodup_append.mp (ez6 ▸ ny)).2.2 _ m _ List.mem_cons_self rfl
            have hz1 : ∀ z ∈ z1, ∃ k, k ≤ nr ∧ Nm z k := fun z m => hyr z (by rw [ez6]; exact List.mem_append_left _ m)
            have hv : v = 0 ∨ v = 1 := by omega
            rcases hv with rfl | rfl
            · walk_at "go"
              rename_i h9 e9 l9 k9
              exact hK _ _ e9 ⟨z1 ++ [zz], z2, qs ++ [(zz, nm)], nr' + 1, by rw [ez6]; simp, rfl, by rw [List.map_append]; rfl, gw.fresh hz1 en nmk, by omega, by simp only [List.length_append, List.length_singleton]; omega, pl8.mono k9 (by simp; omega) (by simp; omega), by omega, by walk_at "keep"⟩
            · walk_at "go"
              rename_i h9 e9 l9 k9
              exact hK _ _ e9 ⟨z1 ++ [zz], z2, qs ++ [(zz, zz)], nr' + 1, by rw [ez6]; simp, rfl, by rw [List.map_append]; rfl, gw.same hzz (hyr zz (by rw [ez6]; simp)) (Nat.le_add_right _ 1), by omega, by simp only [List.length_append, List.length_singleton]; omega, pl8.mono k9 (by simp; omega) (by simp; omega), by omega, by walk_at "keep"⟩
        · rintro acc h6 e6 ⟨z1, z2, qs, nr', ez6, er6, rfl, gw, en, en2, pl6, l6, k6⟩
          have : z2 = [] := List.map_eq_nil_iff.mp er6.symm
          subst this
          rw [List.append_nil] at ez6
          subst ez6
          have lq : qs.length = ys.length := by rw [← gw.k, List.length_map]
          have W := w qs nr' h6 (gw.gp ny fun z m => sb.subset m) (by omega) pl6 (by omega) (by omega) (by walk_at "keep")
          walk_at "go"
          exact W

end Lw

set_option Elab.async false
set_option linter.all false
set_option maxRecDepth 100000
set_option maxHeartbeats 1000000
namespace Lw
open PySem PySem.Spec PyProof.Rows L2 Mi
local macro_rules | `(tactic| walk_at "mem") => `(tactic| first | exact fun _ z => absurd z List.not_mem_nil | exact List.not_mem_nil | (intro i hi; simp only [List.mem_cons, List.not_mem_nil, or_false, false_or] at hi ⊢; omega) | (simp only [List.mem_cons, List.not_mem_nil, or_false, false_or, not_or]; omega))
local macro_rules | `(tactic| walk_at "get") => `(tactic| first | assumption | (apply Keep.get; assumption; walk_at "get"; walk_at "mem"))
local macro_rules | `(tactic| walk_at "keep") => `(tactic| first | assumption | exact Keep.refl | (apply Keep.step; assumption; walk_at "keep"; walk_at "mem"))
local macro_rules | `(tactic| walk_at "one") => `(tactic| (conv => whnf) <;> first
  | (apply br_t; rfl)
  | (apply br_f; rfl)
  | (apply rdO_i; walk_at "get")
  | (apply itm_i; first | rfl | assumption | exact getAt_end _ _)
  | (apply gtD_i; assumption)
  | (apply new_i; intro p h' e1 l1 l2 l3 k)
  | (apply put_i; walk_at "get"; intro h' e1 l1 k)
  | (apply iLst_i; first | rfl | exact intsOf_map _)
  | (apply chk_i; first | rfl | exact lenOk_le (by simp only [List.length_map, List.length_cons, List.length_append, List.length_take, List.length_nil, List.length_replicate, List.length_dropLast]; omega) | exact small_lt (by simp only [List.length_map, List.length_cons, List.length_append, List.length_take, List.length_nil, List.length_replicate, List.length_dropLast]; omega) | assumption | exact mulOk_r (by decide) | exact mulOk_l (by decide) | exact lenOk_le (by omega) | exact small_lt (by omega) | (simp; omega)))
local macro_rules | `(tactic| walk_at "go") => `(tactic| (repeat walk_at "one"); try (conv => whnf))
local macro_rules | `(tactic| walk_at "br") => `(tactic| (refine br_i (fun hc => ?_) (fun hc => ?_) <;> simp only [Bool.not_eq_true', Bool.not_eq_false', beq_iff_eq, beq_eq_false_iff_ne, ne_eq, decide_eq_true_eq, decide_eq_false_iff_not, bne_iff_ne, bne_eq_false_iff_eq] at hc) <;> first | (exfalso; omega) | walk_at "go")

/-! ### what is drawn, and what is known of its names -/
structure Ctx (t : Tr) (P : Pt) (z : Str) (ps : List Str) (b : List St) (nr : Nat) : Prop where
  o : t.ok
  nm : t.nm
  ap : t.ap
  e : P.at_ t = some (z, ps, b)
  bo : bOk b
  hps : ps.length ≤ 3
  ln : (own ps b).length < 3500
  nx : (own ps b).Nodup
  hx : ∀ x ∈ own ps b, ∃ k, k ≤ nr ∧ Nm x k
  hc : ∀ c ∈ t.cells, ∃ k, k ≤ nr ∧ Nm c.1 k
  xc : ∀ c ∈ t.cells, c.1 ∉ own ps b
  hf : ∀ f ∈ t.funs, ∃ k, k ≤ nr ∧ Nm f.1 k
  xf : ∀ f ∈ t.funs, f.1 ∉ own ps b ∧ ∀ c ∈ t.cells, c.1 ≠ f.1
theorem Ctx.mono {t : Tr} {P : Pt} {z : Str} {ps : List Str} {b : List St} {nr nr' : Nat} (C : Ctx t P z ps b nr) (h : nr ≤ nr') : Ctx t P z ps b nr' :=
  ⟨C.o, C.nm, C.ap, C.e, C.bo, C.hps, C.ln, C.nx, fun x m => let ⟨k, a, b⟩ := C.hx x m; ⟨k, by omega, b⟩, fun x m => let ⟨k, a, b⟩ := C.hc x m; ⟨k, by omega, b⟩, C.xc, fun x m => let ⟨k, a, b⟩ := C.hf x m; ⟨k, by omega, b⟩, C.xf⟩
def prsOf (qs : List (Str × Str)) : List (Str × D) := qs.map fun q => (q.1, .str q.2)
theorem prsOf_D (qs : List (Str × Str)) : (prsOf qs).map gpD = qs.map qD := by unfold prsOf; rw [List.map_map]; rfl
theorem prsOf_olds (qs : List (Str × Str)) : olds (prsOf qs) = qs.map (·.1) := by unfold prsOf olds; rw [List.map_map]; rfl
/-- a fresh name -/
def Fr (t : Tr) (xs : List Str) (y : Str) : Prop := isNm (.str y) = true ∧ y ∉ xs ∧ ∀ c ∈ t.cells, c.1 ≠ y
structure GQ (t : Tr) (xs : List Str) (qs : List (Str × Str)) : Prop where
  k : (qs.map (·.1)).Nodup
  i : ∀ q ∈ qs, q.1 ∈ xs
  v : (qs.map (·.2)).Nodup
  n : ∀ q ∈ qs, q.2 ∈ qs.map (·.1) ∨ Fr t xs q.2
section
variable {t : Tr} {P : Pt} {z : Str} {ps : List Str} {b : List St} {nr : Nat}
theorem Ctx.own_nm (C : Ctx t P z ps b nr) (hn : nr < 100000) {x : Str} (m : x ∈ own ps b) : isNm (.str x) = true := by
  obtain ⟨k, k1, k2⟩ := C.hx x m
  exact nm_ok k2 (by omega)
theorem Ctx.fresh (C : Ctx t P z ps b nr) {y : Str} {k : Nat} (hy : Nm y k) (h1 : nr < k) (h2 : k < 100000) : Fr t (own ps b) y := by
  refine ⟨nm_ok hy h2, fun m => ?_, fun c m e => ?_⟩
  · obtain ⟨j, j1, j2⟩ := C.hx y m
    have := hy.inj j2
    omega
  · obtain ⟨j, j1, j2⟩ := C.hc c m
    rw [e] at j2
    have := hy.inj j2
    omega
theorem Ctx.funName (C : Ctx t P z ps b nr) (hn : nr < 100000) {f : Str × List Str × List St} (m : f ∈ t.funs) : Fr t (own ps b) f.1 := by
  obtain ⟨k, k1, k2⟩ := C.hf f m
  obtain ⟨q1, q2⟩ := C.xf f m
  exact ⟨nm_ok k2 (by omega), q1, q2⟩
theorem Ctx.gq (C : Ctx t P z ps b nr) {nr' : Nat} {qs : List (Str × Str)} (g : GP nr nr' (own ps b) qs) (h2 : nr' < 100000) : GQ t (own ps b) qs :=
  ⟨g.k, g.i, g.v, fun q m => by
    rcases g.n q m with h | ⟨k, k1, k2, k3⟩
    · exact .inl h
    · exact .inr (C.fresh k3 k1 (by omega))⟩
theorem tab_hit {qs : List (Str × Str)} (nd : (qs.map (·.1)).Nodup) {q : Str × Str} (m : q ∈ qs) : gd (tabP (prsOf qs)) q.1 = q.2 := by
  have : lkD (prsOf qs) q.1 = some (.str q.2) := by
    induction qs with
    | nil => exact absurd m List.not_mem_nil
    | cons e r ih =>
      obtain ⟨n1, n2⟩ := List.nodup_cons.mp nd
      show lkD ((e.1, .str e.2) :: prsOf r) q.1 = _
      rcases List.mem_cons.mp m with rfl | m
      · exact lk_hit rfl
      · rw [lk_miss fun z => n1 (List.mem_map.mpr ⟨q, m, (show e.1 = q.1 from z).symm⟩)]
        exact ih n2 m
  unfold gd tabP
  rw [this]
  rfl
theorem tab_miss {ps : List (Str × D)} {x : Str} (h : x ∉ olds ps) : gd (tabP ps) x = x := by
  have : lkD ps x = none := by
    cases e : lkD ps x with
    | none => rfl
    | some d => exact absurd (List.mem_map_of_mem (lkD_mem e)) h
  unfold gd tabP
  rw [this]
  rfl
theorem tab_cases {qs : List (Str × Str)} (nd : (qs.map (·.1)).Nodup) (x : Str) : (∃ q ∈ qs, q.1 = x ∧ gd (tabP (prsOf qs)) x = q.2) ∨ (x ∉ qs.map (·.1) ∧ gd (tabP (prsOf qs)) x = x) := by
  by_cases h : x ∈ qs.map (·.1)
  · obtain ⟨q, m, rfl⟩ := List.mem_map.mp h
    exact .inl ⟨q, m, rfl, tab_hit nd m⟩
  · exact .inr ⟨h, tab_miss (by rw [prsOf_olds]; exact h)⟩
theorem mem_inj {qs : List (Str × Str)} (nv : (qs.map (·.2)).Nodup) {q r : Str × Str} (a : q ∈ qs) (c : r ∈ qs) (e : q.2 = r.2) : q = r := by
  induction qs with
  | nil => exact absurd a List.not_mem_nil
  | cons x xs ih =>
    obtain ⟨n1, n2⟩ := List.nodup_cons.mp nv
    rcases List.mem_cons.mp a with rfl | ua <;> rcases List.mem_cons.mp c with rfl | uc
    · rfl
    · exact absurd (List.mem_map.mpr ⟨r, uc, e.symm⟩) n1
    · exact absurd (List.mem_map.mpr ⟨q, ua, e⟩) n1
    · exact ih n2 ua uc
theorem Ctx.told (C : Ctx t P z ps b nr) (hn : nr < 100000) {qs : List (Str × Str)} (g : GQ t (own ps b) qs) : fine (own ps b) (prsOf qs) = true ∧ clash t ((own ps b).map (gd (tabP (prsOf qs)))) = false := by
  refine ⟨fine_i (by rw [prsOf_olds]; exact g.k) fun p m => ?_, clash_no ?_ fun c mc m => ?_⟩
  · obtain ⟨q, mq, rfl⟩ := List.mem_map.mp m
    refine ⟨g.i q mq, ?_⟩
    rcases g.n q mq with h | h
    · obtain ⟨r, mr, er⟩ := List.mem_map.mp h
      exact C.own_nm hn (by show q.2 ∈ _; rw [← er]; exact g.i r mr)
    · exact h.1
  · have nx := C.nx
    unfold List.Nodup
    rw [List.pairwise_map]
    refine List.Pairwise.imp_of_mem (fun {x y} mx my hxy e => hxy ?_) nx
    rcases tab_cases g.k x with ⟨q, mq, rfl, e1⟩ | ⟨n1, e1⟩ <;> rcases tab_cases g.k y with ⟨r, mr, rfl, e2⟩ | ⟨n2, e2⟩
    · rw [e1, e2] at e
      rw [mem_inj g.v mq mr e]
    · rw [e1, e2] at e
      rcases g.n q mq with h | h
      · exact absurd (e ▸ h) n2
      · exact absurd (e ▸ my) h.2.1
    · rw [e1, e2] at e
      rcases g.n r mr with h | h
      · exact absurd (e ▸ h) n1
      · exact absurd (e ▸ mx) h.2.1
    · rw [e1, e2] at e
      exact e
  · obtain ⟨x, mx, ex⟩ := List.mem_map.mp m
    rcases tab_cases g.k x with ⟨q, mq, rfl, e1⟩ | ⟨n1, e1⟩
    · rw [e1] at ex
      rcases g.n q mq with h | h
      · obtain ⟨r, mr, er⟩ := List.mem_map.mp h
        exact C.xc c mc (by rw [← ex, ← er]; exact g.i r mr)
      · exact h.2.2 c mc ex.symm
    · rw [e1] at ex
      exact C.xc c mc (ex ▸ mx)
theorem gq_nil : GQ t (own ps b) [] := ⟨List.nodup_nil, fun _ m => absurd m List.not_mem_nil, List.nodup_nil, fun _ m => absurd m List.not_mem_nil⟩
theorem gq_one {x y : Str} (m : x ∈ own ps b) (f : Fr t (own ps b) y) : GQ t (own ps b) [(x, y)] :=
  ⟨by simp, fun q mq => by rw [List.mem_singleton.mp mq]; exact m, by simp, fun q mq => by rw [List.mem_singleton.mp mq]; exact .inr f⟩
/-- refused: no old name, twice the same one, no name -/
theorem fine_old {xs : List Str} {ps : List (Str × D)} {p : Str × D} (m : p ∈ ps) (h : p.1 ∉ xs) : fine xs ps = false := by
  unfold fine
  rw [List.all_eq_false]
  exact ⟨p, m, by unfold fine1; rw [decide_eq_false h]; simp⟩
theorem fine_bad {xs : List Str} {ps : List (Str × D)} {p : Str × D} (m : p ∈ ps) (h : isNm p.2 = false) : fine xs ps = false := by
  unfold fine
  rw [List.all_eq_false]
  exact ⟨p, m, by unfold fine1; rw [h]; simp⟩
theorem fine_two {xs : List Str} {x : Str} {a c : D} : fine xs [(x, a), (x, c)] = false := by
  unfold fine
  rw [List.all_eq_false]
  refine ⟨(x, a), List.mem_cons_self, ?_⟩
  unfold fine1 olds
  have : List.countP (· == x) (List.map (·.1) [(x, a), (x, c)]) = 2 := by simp
  rw [this]
  simp
/-- taken -/
structure Tk (t : Tr) (xs : List Str) (prs : List (Str × D)) : Prop where
  f : fine xs prs = true
  c : clash t (xs.map (gd (tabP prs))) = true
  k : ∀ p ∈ prs, kS p.2 = true ∧ ∀ z, p.2 = .str z → z.length ≤ 100
  l : prs.length ≤ 2
theorem isNm_len {y : Str} (h : isNm (.str y) = true) : y.length ≤ 100 := by
  unfold isNm at h
  rw [Bool.and_eq_true, Bool.and_eq_true] at h
  have := of_decide_eq_true h.2.1
  omega
theorem str_k {y : Str} (h : isNm (.str y) = true) : kS (.str y) = true ∧ ∀ z, D.str y = .str z → z.length ≤ 100 := ⟨rfl, fun z e => by cases e; exact isNm_len h⟩
theorem Ctx.tk_other (C : Ctx t P z ps b nr) (hn : nr < 100000) {x y : Str} (mx : x ∈ own ps b) (my : y ∈ own ps b) (h : x ≠ y) : Tk t (own ps b) [(x, .str y)] := by
  have hy := C.own_nm hn my
  refine ⟨fine_i (by simp [olds]) fun p m => by rw [List.mem_singleton.mp m]; exact ⟨mx, hy⟩, clash_twice fun nd => ?_, fun p m => by rw [List.mem_singleton.mp m]; exact str_k hy, by simp⟩
  have nd' := (List.pairwise_map.mp nd)
  have e1 : gd (tabP [(x, D.str y)]) x = y := tab_hit (qs := [(x, y)]) (by simp) (q := (x, y)) List.mem_cons_self
  have e2 : gd (tabP [(x, D.str y)]) y = y := tab_miss (by simp [olds]; exact fun q => h q.symm)
  obtain ⟨i, hi⟩ := List.getElem?_of_mem mx
  obtain ⟨j, hj⟩ := List.getElem?_of_mem my
  obtain ⟨li, ei⟩ := List.getElem?_eq_some_iff.mp hi
  obtain ⟨lj, ej⟩ := List.getElem?_eq_some_iff.mp hj
  rcases Nat.lt_trichotomy i j with q | q | q
  · have := List.pairwise_iff_getElem.mp nd' i j li lj q
    rw [ei, ej, e1, e2] at this
    exact this rfl
  · subst q
    exact h (ei.symm.trans ej)
  · have := List.pairwise_iff_getElem.mp nd' j i lj li q
    rw [ei, ej, e1, e2] at this
    exact this rfl
theorem Ctx.tk_same (C : Ctx t P z ps b nr) {x y v : Str} (mx : x ∈ own ps b) (my : y ∈ own ps b) (h : x ≠ y) (hv : isNm (.str v) = true) : Tk t (own ps b) [(x, .str v), (y, .str v)] := by
  refine ⟨fine_i (by simp [olds]; exact h) fun p m => ?_, clash_twice fun nd => ?_, fun p m => ?_, by simp⟩
  · rcases List.mem_cons.mp m with rfl | m
    · exact ⟨mx, hv⟩
    · rw [List.mem_singleton.mp m]; exact ⟨my, hv⟩
  · have nd' := (List.pairwise_map.mp nd)
    have e1 : gd (tabP [(x, D.str v), (y, D.str v)]) x = v := tab_hit (qs := [(x, v), (y, v)]) (by simp; exact h) (q := (x, v)) List.mem_cons_self
    have e2 : gd (tabP [(x, D.str v), (y, D.str v)]) y = v := tab_hit (qs := [(x, v), (y, v)]) (by simp; exact h) (q := (y, v)) (by simp)
    obtain ⟨i, hi⟩ := List.getElem?_of_mem mx
    obtain ⟨j, hj⟩ := List.getElem?_of_mem my
    obtain ⟨li, ei⟩ := List.getElem?_eq_some_iff.mp hi
    obtain ⟨lj, ej⟩ := List.getElem?_eq_some_iff.mp hj
    rcases Nat.lt_trichotomy i j with q | q | q
    · have := List.pairwise_iff_getElem.mp nd' i j li lj q
      rw [ei, ej, e1, e2] at this
      exact this rfl
    · subst q
      exact h (ei.symm.trans ej)
    · have := List.pairwise_iff_getElem.mp nd' j i lj li q
      rw [ei, ej, e1, e2] at this
      exact this rfl
  · rcases List.mem_cons.mp m with rfl | m
    · exact str_k hv
    · rw [List.mem_singleton.mp m]; exact str_k hv
theorem Ctx.tk_cell (C : Ctx t P z ps b nr) (hn : nr < 100000) {x : Str} {c : Str × Int} (mx : x ∈ own ps b) (mc : c ∈ t.cells) : Tk t (own ps b) [(x, .str c.1)] := by
  obtain ⟨k, k1, k2⟩ := C.hc c mc
  have hc := nm_ok k2 (by omega)
  refine ⟨fine_i (by simp [olds]) fun p m => by rw [List.mem_singleton.mp m]; exact ⟨mx, hc⟩, clash_cell mc (List.mem_map.mpr ⟨x, mx, ?_⟩), fun p m => by rw [List.mem_singleton.mp m]; exact str_k hc, by simp⟩
  exact tab_hit (qs := [(x, c.1)]) (by simp) (q := (x, c.1)) List.mem_cons_self
end

end Lw

set_option Elab.async false
set_option linter.all false
set_option maxRecDepth 100000
set_option maxHeartbeats 1000000
namespace Lw
open PySem PySem.Spec PyProof.Rows L2 Mi
local macro_rules | `(tactic| walk_at "mem") => `(tactic| first | exact fun _ z => absurd z List.not_mem_nil | exact List.not_mem_nil | (intro i hi; simp only [List.mem_cons, List.not_mem_nil, or_false, false_or] at hi ⊢; omega) | (simp only [List.mem_cons, List.not_mem_nil, or_false, false_or, not_or]; omega))
local macro_rules | `(tactic| walk_at "get") => `(tactic| first | assumption | (apply Keep.get; assumption; walk_at "get"; walk_at "mem"))
local macro_rules | `(tactic| walk_at "keep") => `(tactic| first | assumption | exact Keep.refl | (apply Keep.step; assumption; walk_at "keep"; walk_at "mem"))
local macro_rules | `(tactic| walk_at "one") => `(tactic| (conv => whnf) <;> first
  | (apply br_t; rfl)
  | (apply br_f; rfl)
  | (apply rdO_i; walk_at "get")
  | (apply itm_i; first | rfl | assumption | exact getAt_end _ _)
  | (apply gtD_i; assumption)
  | (apply new_i; intro p h' e1 l1 l2 l3 k)
  | (apply put_i; walk_at "get"; intro h' e1 l1 k)
  | (apply iLst_i; first | rfl | exact intsOf_map _)
  | (apply chk_i; first | rfl | exact lenOk_le (by simp only [List.length_map, List.length_cons, List.length_append, List.length_take, List.length_nil, List.length_replicate, List.length_dropLast]; omega) | exact small_lt (by simp only [List.length_map, List.length_cons, List.length_append, List.length_take, List.length_nil, List.length_replicate, List.length_dropLast]; omega) | assumption | exact mulOk_r (by decide) | exact mulOk_l (by decide) | exact lenOk_le (by omega) | exact small_lt (by omega) | (simp; omega)))
local macro_rules | `(tactic| walk_at "go") => `(tactic| (repeat walk_at "one"); try (conv => whnf))
local macro_rules | `(tactic| walk_at "br") => `(tactic| (refine br_i (fun hc => ?_) (fun hc => ?_) <;> simp only [Bool.not_eq_true', Bool.not_eq_false', beq_iff_eq, beq_eq_false_iff_ne, ne_eq, decide_eq_true_eq, decide_eq_false_iff_not, bne_iff_ne, bne_eq_false_iff_eq] at hc) <;> first | (exfalso; omega) | walk_at "go")
theorem tr_gr2 {t : Tr} (o : t.ok) : gr t.d < 9000000 := by
  have h1 : grs (t.cells.map cD) ≤ t.cells.length * 3 := grs_map fun x _ => by simp [cD, gr, grs]
  have h2 : grs (t.funs.map fuD) ≤ t.funs.length * 400020 := grs_map fun x m => by
    obtain ⟨⟨l, _⟩, _, _, g⟩ := o.fb x m
    have : grs (x.2.1.map D.str) ≤ x.2.1.length * 1 := grs_map fun _ _ => by simp [gr]
    simp only [fuD, bD, gr, grs]
    omega
  have h3 : grs (t.ons.map oD) ≤ t.ons.length * 400020 := grs_map fun x m => by
    obtain ⟨_, _, g⟩ := o.ob x m
    simp only [oD, bD, gr, grs]
    omega
  have g4 := o.m.2.2
  have c1 := o.c
  have c2 := o.f
  have c3 := o.o
  have m1 : t.cells.length * 3 ≤ 3 * 3 := Nat.mul_le_mul_right _ c1
  have m2 : t.funs.length * 400020 ≤ 4 * 400020 := Nat.mul_le_mul_right _ c2
  have m3 : t.ons.length * 400020 ≤ 4 * 400020 := Nat.mul_le_mul_right _ c3
  simp only [Tr.d, bD, gr, grs]
  omega

theorem grs_eq {α : Type} {f g : α → D} : ∀ {xs : List α}, (∀ x ∈ xs, gr (f x) = gr (g x)) → grs (xs.map f) = grs (xs.map g)
  | [], _ => rfl
  | x :: xs, h => by
    show gr (f x) + grs (xs.map f) = gr (g x) + grs (xs.map g)
    rw [h x List.mem_cons_self, grs_eq fun y m => h y (List.mem_cons_of_mem _ m)]
theorem bD_gr (ν φ : Str → Str) (b : List St) : gr (bD (St.rens ν φ b)) = gr (bD b) := by
  show grs (St.ds (St.rens ν φ b)) + 1 = grs (St.ds b) + 1
  rw [srens_gr]
theorem due_gr (t : Tr) (z : Str) (f : Tab) : gr (dueT t z f).d = gr t.d := by
  have e1 : grs ((dueT t z f).funs.map fuD) = grs (t.funs.map fuD) := by
    show grs ((t.funs.map (dF z f)).map fuD) = _
    rw [List.map_map]
    refine grs_eq fun g _ => ?_
    show gr (fuD (dF z f g)) = gr (fuD g)
    unfold dF
    split
    · have e2 : grs ((g.2.1.map (gd f)).map D.str) = grs (g.2.1.map D.str) := by rw [List.map_map]; exact grs_eq fun _ _ => rfl
      have e3 := bD_gr (gd f) (gd nul) g.2.2
      show gr (D.tup [.str g.1, .tup ((g.2.1.map (gd f)).map D.str), bD (St.rens (gd f) (gd nul) g.2.2)]) = gr (D.tup [.str g.1, .tup (g.2.1.map D.str), bD g.2.2])
      simp only [gr, grs, e2, e3]
    · rfl
  have e4 : grs ((dueT t z f).ons.map oD) = grs (t.ons.map oD) := by
    show grs ((t.ons.map (dO z f)).map oD) = _
    rw [List.map_map]
    refine grs_eq fun g _ => ?_
    show gr (oD (dO z f g)) = gr (oD g)
    unfold dO
    split
    · have e3 := bD_gr (gd f) (gd nul) g.2
      show gr (D.tup [.int g.1, bD (St.rens (gd f) (gd nul) g.2)]) = gr (D.tup [.int g.1, bD g.2])
      simp only [gr, grs, e3]
    · rfl
  have e5 : gr (bD (dueT t z f).main) = gr (bD t.main) := by
    show gr (bD (if z = w_main then _ else _)) = _
    split
    · exact bD_gr _ _ _
    · rfl
  show gr (D.tup [.tup (t.cells.map cD), .tup ((dueT t z f).funs.map fuD), .tup ((dueT t z f).ons.map oD), bD (dueT t z f).main]) = gr (D.tup [.tup (t.cells.map cD), .tup (t.funs.map fuD), .tup (t.ons.map oD), bD t.main])
  simp only [gr, grs, e1, e4, e5]
theorem prs_k {t : Tr} {xs : List Str} {qs : List (Str × Str)} (g : GQ t xs qs) (hx : ∀ x ∈ xs, isNm (.str x) = true) : ∀ p ∈ prsOf qs, kS p.2 = true ∧ ∀ z, p.2 = .str z → z.length ≤ 100 := fun p m => by
  obtain ⟨q, mq, rfl⟩ := List.mem_map.mp m
  refine str_k ?_
  rcases g.n q mq with h | h
  · obtain ⟨r, mr, er⟩ := List.mem_map.mp h
    rw [← er]
    exact hx _ (g.i r mr)
  · exact h.1
section
variable {n : Nat} {t : Tr} {P : Pt} {z : Str} {ps : List Str} {b : List St} {nr : Nat} {h : Hh} {Q : Kd} {X : Ex}
theorem td_name (hn : 31 ≤ n) (C : Ctx t P z ps b nr) {prs : List (Str × D)} (hk : ∀ p ∈ prs, kS p.2 = true ∧ ∀ z, p.2 = .str z → z.length ≤ 100) (hl : prs.length < 3500) (hf : fine (own ps b) prs = false)
    (w : ∀ h', Keep [] h h' → Q (refused w_name) h') : rn n i_law_tried [t.d, .str z, .tup (prs.map gpD)] h Q X :=
  td_ok hn C.nm C.ap C.e C.bo C.hps C.ln hk hl (fun f => absurd f (by rw [hf]; decide)) (fun _ => w) (fun f => absurd f (by rw [hf]; decide))
theorem td_taken (hn : 31 ≤ n) (C : Ctx t P z ps b nr) {prs : List (Str × D)} (k : Tk t (own ps b) prs)
    (w : ∀ h', Keep [] h h' → Q (refused w_taken) h') : rn n i_law_tried [t.d, .str z, .tup (prs.map gpD)] h Q X :=
  td_ok hn C.nm C.ap C.e C.bo C.hps C.ln k.k (by have := k.l; omega) (fun _ c => absurd c (by rw [k.c]; decide)) (fun f => absurd f (by rw [k.f]; decide)) (fun _ _ => w)
theorem td_told (hn : 31 ≤ n) (hr : nr < 100000) (C : Ctx t P z ps b nr) {qs : List (Str × Str)} (g : GQ t (own ps b) qs) (hl : qs.length < 3500)
    (w : ∀ h', Keep [] h h' → Q (told (dueT t z (tabP (prsOf qs))).d) h') : rn n i_law_tried [t.d, .str z, .tup (qs.map qD)] h Q X := by
  obtain ⟨c1, c2⟩ := C.told hr g
  have := td_ok (n := n) (h := h) (Q := Q) (X := X) hn C.nm C.ap C.e C.bo C.hps C.ln (prs_k g fun x m => C.own_nm hr m) (by unfold prsOf; rw [List.length_map]; exact hl) (fun _ _ h' k => by rw [← dueT_eq C.nm C.ap C.e]; exact w h' k) (fun f => absurd f (by rw [c1]; decide)) (fun _ c => absurd c (by rw [c2]; decide))
  rw [prsOf_D] at this
  exact this
theorem same_ref (hn : 1 ≤ n) {y : Str} (w : ∀ h', Keep [] h h' → Q (.bl true) h') : rn n i_law_same [refused y, .tup [.str w_refused, .str y]] h Q X :=
  same_ok (t := refused y) hn rfl (by show 1 + (1 + 0) + 1 < _ ; decide) fun h' _ k => w h' k
theorem same_told (hn : 1 ≤ n) {t u : Tr} (o : t.ok) (e : gr u.d = gr t.d) (w : ∀ h', Keep [] h h' → Q (.bl true) h') : rn n i_law_same [told u.d, .tup [.str w_told, u.d]] h Q X :=
  same_ok (t := told u.d) hn (by show (true && (pln u.d && true)) = true; rw [tr_pln]; rfl) (by have := tr_gr2 o; show gr (D.tup [.str w_told, u.d]) < _; simp only [gr, grs]; omega) fun h' _ k => w h' k
end

end Lw

set_option Elab.async false
set_option linter.all false
set_option maxRecDepth 100000
set_option maxHeartbeats 1000000
namespace Lw
open PySem PySem.Spec PyProof.Rows L2 Mi
local macro_rules | `(tactic| walk_at "mem") => `(tactic| first | exact fun _ z => absurd z List.not_mem_nil | exact List.not_mem_nil | (intro i hi; simp only [List.mem_cons, List.not_mem_nil, or_false, false_or] at hi ⊢; omega) | (simp only [List.mem_cons, List.not_mem_nil, or_false, false_or, not_or]; omega))
local macro_rules | `(tactic| walk_at "get") => `(tactic| first | assumption | (apply Keep.get; assumption; walk_at "get"; walk_at "mem"))
local macro_rules | `(tactic| walk_at "keep") => `(tactic| first | assumption | exact Keep.refl | (apply Keep.step; assumption; walk_at "keep"; walk_at "mem"))
local macro_rules | `(tactic| walk_at "one") => `(tactic| (conv => whnf) <;> first
  | (apply br_t; rfl)
  | (apply br_f; rfl)
  | (apply rdO_i; walk_at "get")
  | (apply itm_i; first | rfl | assumption | exact getAt_end _ _)
  | (apply gtD_i; assumption)
  | (apply new_i; intro p h' e1 l1 l2 l3 k)
  | (apply put_i; walk_at "get"; intro h' e1 l1 k)
  | (apply iLst_i; first | rfl | exact intsOf_map _)
  | (apply chk_i; first | rfl | exact lenOk_le (by simp only [List.length_map, List.length_cons, List.length_append, List.length_take, List.length_nil, List.length_replicate, List.length_dropLast]; omega) | exact small_lt (by simp only [List.length_map, List.length_cons, List.length_append, List.length_take, List.length_nil, List.length_replicate, List.length_dropLast]; omega) | assumption | exact mulOk_r (by decide) | exact mulOk_l (by decide) | exact lenOk_le (by omega) | exact small_lt (by omega) | (simp; omega)))
local macro_rules | `(tactic| walk_at "go") => `(tactic| (repeat walk_at "one"); try (conv => whnf))
local macro_rules | `(tactic| walk_at "br") => `(tactic| (refine br_i (fun hc => ?_) (fun hc => ?_) <;> simp only [Bool.not_eq_true', Bool.not_eq_false', beq_iff_eq, beq_eq_false_iff_ne, ne_eq, decide_eq_true_eq, decide_eq_false_iff_not, bne_iff_ne, bne_eq_false_iff_eq] at hc) <;> first | (exfalso; omega) | walk_at "go")

section
variable {n p c r nr : Nat} {t : Tr} {P : Pt} {z : Str} {ps : List Str} {b : List St} {h : Hh} {Q : Kd} {X : Ex}
theorem tab_one (x y : Str) : tabP (prsOf [(x, y)]) = upF nul x y := by
  funext w
  show (lkD [(x, .str y)] w).bind strOf = upF nul x y w
  unfold upF
  by_cases e : w = x
  · rw [lk_hit e.symm, if_pos e]; rfl
  · rw [lk_miss fun q => e q.symm, if_neg e]; rfl
theorem asked_3 {one : Str} {x4 x5 x6 x8 x9 x10 x11 x12 : Option D} (hn : 40 ≤ n) (C : Ctx t P z ps b nr) (hr : nr < 100000) (pl : Pl h p c nr) (mo : one ∈ own ps b)
    (w : ∀ h', Pl h' p c nr → Keep [p] h h' → Q (.bl true) h') : wB gls (rn n) X c_law_asked_3 (R0 Q) [some (.ref p), some t.d, some (.str z), some (.ref r), x4, x5, x6, some (.str one), x8, x9, x10, x11, x12] h := by
  have l2 : (t.funs.map fuD).length = t.funs.length := List.length_map ..
  have c1 := C.o.f
  have s1 := pl.lt
  have g1 : getAt [D.tup (t.cells.map cD), .tup (t.funs.map fuD), .tup (t.ons.map oD), bD t.main] 1 = some (.tup (t.funs.map fuD)) := rfl
  conv => whnf
  refine itm_i rfl ?_
  conv => whnf
  refine br_i (fun hc => ?_) (fun hc => ?_)
  · have hc' : (0 : Int) < ((t.funs.map fuD).length : Nat) := of_decide_eq_true hc
    conv => whnf
    refine itm_i rfl ?_
    conv => whnf
    refine itm_i rfl ?_
    conv => whnf
    refine take_ok (m := ((t.funs.map fuD).length : Nat)) pl hc' (by omega) (by omega) fun a h1 a0 a1 pl1 l1 k1 => ?_
    obtain ⟨f, mf, gf⟩ := getAt_ok (f := fuD) (xs := t.funs) (v := a) a0 (by omega)
    conv => whnf
    refine itm_i gf ?_
    conv => whnf
    refine itm_i rfl ?_
    have G := gq_one mo (C.funName hr mf)
    conv => whnf
    refine chk_i rfl ?_
    conv => whnf
    refine chk_i rfl ?_
    conv => whnf
    refine td_told (qs := [(one, f.1)]) (by omega) hr C G (by simp) fun h2 k2 => ?_
    have k12 : Keep [p] h h2 := by walk_at "keep"
    have O := C.o
    have NM := C.nm
    have E := dueT_eq (f := tabP (prsOf [(one, f.1)])) C.nm C.ap C.e
    have gg := due_gr t z (tabP (prsOf [(one, f.1)]))
    generalize hD : dueT t z (tabP (prsOf [(one, f.1)])) = u at gg E ⊢
    walk_at "go"
    rename_i q h3 e3 g2 g3 g4 k3 h4 e4 l4 k4
    have k24 : Keep [] h2 h4 := by walk_at "keep"
    refine due_ok (by omega) O NM (dt_one e4) fun h5 k5 => ?_
    rw [show dueT t z (upF nul one f.1) = u by rw [← tab_one]; exact hD]
    have k15 : Keep [] h1 h5 := by walk_at "keep"
    have W := fun h6 (k6 : Keep [] h5 h6) => w h6 ((pl1.mono k15 List.not_mem_nil List.not_mem_nil).mono k6 List.not_mem_nil List.not_mem_nil) (by walk_at "keep")
    walk_at "go"
    refine same_told (by omega) O gg fun h6 k6 => ?_
    have := W h6 k6
    walk_at "go"
    exact this
  · have := w h pl Keep.refl
    walk_at "go"
    exact this
theorem fine_app {xs : List Str} {ps : List (Str × D)} {x : Str} {d : D} (h : x ∉ xs) : fine xs (ps ++ [(x, d)]) = false := fine_old (p := (x, d)) (by simp) h
theorem asked_8 {one fr st : Str} {q9 : Nat} {tk : List (List (Str × D))} {x4 x8 x10 x11 x12 : Option D} (hn : 40 ≤ n) (C : Ctx t P z ps b nr) (hr : nr < 100000) (pl : Pl h p c nr) (mo : one ∈ own ps b) (ef : isNm (.str fr) = true) (hs : st ∉ own ps b)
    (e9 : h[q9]? = some (.lst (tk.map fun prs => .tup (prs.map gpD)))) (hq : q9 ≠ p) (ht : ∀ prs ∈ tk, Tk t (own ps b) prs) (hl : tk.length ≤ 100)
    (w : ∀ h', Pl h' p c nr → Keep [p] h h' → Q (.bl true) h') : wB gls (rn n) X c_law_asked_8 (R0 Q) [some (.ref p), some t.d, some (.str z), some (.ref r), x4, some (.str fr), some (.tup [.str st, .str fr]), some (.str one), x8, some (.ref q9), x10, x11, x12] h := by
  have s1 := pl.lt
  have s9 := lt_of e9
  generalize hD : t.d = td
  walk_at "one"
  refine loopL_i (tk.map fun prs => .tup (prs.map gpD)) (I := fun rr σ h' => ∃ (z1 z2 : List (List (Str × D))) (y11 : Option D), tk = z1 ++ z2 ∧ rr = z2.map (fun prs => D.tup (prs.map gpD)) ∧ σ = [some (.ref p), some td, some (.str z), some (.ref r), x4, some (.str fr), some (.tup [.str st, .str fr]), some (.str one), x8, some (.ref q9), x10, y11, x12] ∧ h.length ≤ h'.length ∧ Keep [] h h') ?_ ?_ ?_ _ _ _ _ _ (by simp) (fuel_lt (by rw [List.length_map]; omega)) ⟨[], tk, _, rfl, rfl, rfl, Nat.le_refl _, Keep.refl⟩
  · rintro rr σ h' ⟨z1, z2, y11, ez, er, rfl, l1, k1⟩
    exact k1.get e9 List.not_mem_nil
  · rintro x rr σ h1 K ⟨z1, z2, y11, ez, er, rfl, l1, k1⟩ hK
    cases z2 with
    | nil => cases er
    | cons prs z2 =>
      simp only [List.map_cons, List.cons.injEq] at er
      obtain ⟨rfl, rfl⟩ := er
      have T := ht prs (by rw [ez]; simp)
      walk_at "go"
      subst hD
      refine td_taken (by omega) C T fun h2 k2 => ?_
      generalize hD : t.d = td at hK ⊢
      walk_at "go"
      refine same_ref (by omega) fun h3 k3 => ?_
      conv => whnf
      refine br_f rfl ?_
      have e : (prs.map gpD) ++ [D.tup [.str st, .str fr]] = (prs ++ [(st, D.str fr)]).map gpD := by rw [List.map_append]; rfl
      have l2 : (prs.map gpD).length ≤ 2 := by rw [List.length_map]; exact T.l
      walk_at "go"
      rw [e]
      subst hD
      refine td_name (by omega) C (fun q m => ?_) (by have := T.l; simp only [List.length_append, List.length_singleton]; omega) (fine_app hs) fun h4 k4 => ?_
      · rcases List.mem_append.mp m with m | m
        · exact T.k q m
        · rw [List.mem_singleton.mp m]; exact str_k ef
      generalize hD : t.d = td at hK ⊢
      walk_at "go"
      refine same_ref (by omega) fun h5 k5 => ?_
      conv => whnf
      refine br_f rfl ?_
      have k15 : Keep [] h1 h5 := by walk_at "keep"
      have := k15.len
      exact hK _ _ ⟨z1 ++ [prs], z2, _, by rw [ez]; simp, rfl, rfl, by omega, by walk_at "keep"⟩
  · rintro σ h1 ⟨z1, z2, y11, ez, er, rfl, l1, k1⟩
    subst hD
    exact asked_3 hn C hr (pl.mono k1 List.not_mem_nil List.not_mem_nil) mo fun h' a k => w h' a (by walk_at "keep")
end

end Lw

set_option Elab.async false
set_option linter.all false
set_option maxRecDepth 100000
set_option maxHeartbeats 1000000
namespace Lw
open PySem PySem.Spec PyProof.Rows L2 Mi
local macro_rules | `(tactic| walk_at "mem") => `(tactic| first | exact fun _ z => absurd z List.not_mem_nil | exact List.not_mem_nil | (intro i hi; simp only [List.mem_cons, List.not_mem_nil, or_false, false_or] at hi ⊢; omega) | (simp only [List.mem_cons, List.not_mem_nil, or_false, false_or, not_or]; omega))
local macro_rules | `(tactic| walk_at "get") => `(tactic| first | assumption | (apply Keep.get; assumption; walk_at "get"; walk_at "mem"))
local macro_rules | `(tactic| walk_at "keep") => `(tactic| first | assumption | exact Keep.refl | (apply Keep.step; assumption; walk_at "keep"; walk_at "mem"))
local macro_rules | `(tactic| walk_at "one") => `(tactic| (conv => whnf) <;> first
  | (apply br_t; rfl)
  | (apply br_f; rfl)
  | (apply rdO_i; walk_at "get")
  | (apply itm_i; first | rfl | assumption | exact getAt_end _ _)
  | (apply gtD_i; assumption)
  | (apply new_i; intro p h' e1 l1 l2 l3 k)
  | (apply put_i; walk_at "get"; intro h' e1 l1 k)
  | (apply iLst_i; first | rfl | exact intsOf_map _)
  | (apply chk_i; first | rfl | exact lenOk_le (by simp only [List.length_map, List.length_cons, List.length_append, List.length_take, List.length_nil, List.length_replicate, List.length_dropLast]; omega) | exact small_lt (by simp only [List.length_map, List.length_cons, List.length_append, List.length_take, List.length_nil, List.length_replicate, List.length_dropLast]; omega) | assumption | exact mulOk_r (by decide) | exact mulOk_l (by decide) | exact lenOk_le (by omega) | exact small_lt (by omega) | (simp; omega)))
local macro_rules | `(tactic| walk_at "go") => `(tactic| (repeat walk_at "one"); try (conv => whnf))
local macro_rules | `(tactic| walk_at "br") => `(tactic| (refine br_i (fun hc => ?_) (fun hc => ?_) <;> simp only [Bool.not_eq_true', Bool.not_eq_false', beq_iff_eq, beq_eq_false_iff_ne, ne_eq, decide_eq_true_eq, decide_eq_false_iff_not, bne_iff_ne, bne_eq_false_iff_eq] at hc) <;> first | (exfalso; omega) | walk_at "go")

section
variable {n p c r nr : Nat} {t : Tr} {P : Pt} {z : Str} {ps : List Str} {b : List St} {h : Hh} {Q : Kd} {X : Ex}
theorem nil_i {bb : MB} {R : Es} {σ : Sg} {h : Hh} (w : wB gls (rn n) X bb R σ h) : wB gls (rn n) X .nil (seqE (wB gls (rn n) X bb) R) σ h := w
def tkD (prs : List (Str × D)) : D := .tup (prs.map gpD)
theorem asked_10 {one fr st : Str} {q9 : Nat} {tk : List (List (Str × D))} {x4 x8 x10 x11 x12 : Option D} (hn : 40 ≤ n) (C : Ctx t P z ps b nr) (hr : nr < 100000) (pl : Pl h p c nr) (mo : one ∈ own ps b) (ef : isNm (.str fr) = true) (hs : st ∉ own ps b)
    (e9 : h[q9]? = some (.lst (tk.map tkD))) (hq : q9 ≠ p) (hq2 : q9 ≠ c) (ht : ∀ prs ∈ tk, Tk t (own ps b) prs) (hl : tk.length ≤ 10)
    (w : ∀ h', Pl h' p c nr → Keep [p, q9] h h' → Q (.bl true) h') : wB gls (rn n) X c_law_asked_10 (R0 Q) [some (.ref p), some t.d, some (.str z), some (.ref r), x4, some (.str fr), some (.tup [.str st, .str fr]), some (.str one), x8, some (.ref q9), x10, x11, x12] h := by
  have l2 : (t.cells.map cD).length = t.cells.length := List.length_map ..
  have c1 := C.o.c
  have s1 := pl.lt
  have s9 := lt_of e9
  conv => whnf
  refine itm_i rfl ?_
  conv => whnf
  refine br_i (fun hc => ?_) (fun hc => ?_)
  · have hc' : (0 : Int) < ((t.cells.map cD).length : Nat) := of_decide_eq_true hc
    conv => whnf
    refine rdO_i e9 ?_
    conv => whnf
    refine itm_i rfl ?_
    conv => whnf
    refine itm_i rfl ?_
    conv => whnf
    refine take_ok (m := ((t.cells.map cD).length : Nat)) pl hc' (by omega) (by omega) fun a h1 a0 a1 pl1 l1 k1 => ?_
    obtain ⟨f, mf, gf⟩ := getAt_ok (f := cD) (xs := t.cells) (v := a) a0 (by omega)
    have e91 := k1.get e9 (by simp; exact hq)
    have lt9 : (tk.map tkD).length = tk.length := List.length_map ..
    conv => whnf
    refine itm_i gf ?_
    conv => whnf
    refine itm_i rfl ?_
    conv => whnf
    refine chk_i rfl ?_
    conv => whnf
    refine chk_i rfl ?_
    conv => whnf
    refine rdO_i e91 ?_
    conv => whnf
    refine chk_i (small_lt (by omega)) ?_
    conv => whnf
    refine put_i e91 fun h2 e2 l2 k2 => ?_
    have K2 := C.tk_cell hr mo mf
    have e92 : h2[q9]? = some (.lst ((tk ++ [[(one, D.str f.1)]]).map tkD)) := by rw [e2, List.map_append]; rfl
    have pl2 := pl1.mono k2 (by simp; exact fun q => hq q.symm) (by simp; exact fun q => hq2 q.symm)
    refine nil_i ?_
    exact asked_8 (tk := tk ++ [[(one, D.str f.1)]]) hn C hr pl2 mo ef hs e92 hq (fun prs m => by
      rcases List.mem_append.mp m with m | m
      · exact ht prs m
      · rw [List.mem_singleton.mp m]; exact K2) (by simp only [List.length_append, List.length_singleton]; omega) fun h' a k => w h' a (by walk_at "keep")
  · refine nil_i ?_
    exact asked_8 (tk := tk) hn C hr pl mo ef hs e9 hq ht (by omega) fun h' a k => w h' a (by walk_at "keep")
theorem asked_15 {one fr st : Str} {x4 x8 x9 x10 x11 x12 : Option D} (hn : 40 ≤ n) (C : Ctx t P z ps b nr) (hr : nr < 100000) (pl : Pl h p c nr) (mo : one ∈ own ps b) (ef : isNm (.str fr) = true) (hs : st ∉ own ps b)
    (er : h[r]? = some (.lst ((own ps b).map .str)))
    (w : ∀ h', Pl h' p c nr → Keep [p] h h' → Q (.bl true) h') : wB gls (rn n) X c_law_asked_15 (R0 Q) [some (.ref p), some t.d, some (.str z), some (.ref r), x4, some (.str fr), some (.tup [.str st, .str fr]), some (.str one), x8, x9, x10, x11, x12] h := by
  have s1 := pl.lt
  have s2 := lt_of er
  have ln := C.ln
  have nx := C.nx
  have l2 : ((own ps b).map D.str).length = (own ps b).length := List.length_map ..
  conv => whnf
  refine chk_i rfl ?_
  refine new_i fun q9 h1 e9 g1 g2 g3 k1 => ?_
  have er1 := k1.get er List.not_mem_nil
  have pl1 := pl.mono k1 List.not_mem_nil List.not_mem_nil
  have W1 : ∀ h2 h', Keep [q9] h1 h2 → Pl h' p c nr → Keep [p, q9] h2 h' → Q (.bl true) h' := fun h2 h' ka a k => w h' a (by walk_at "keep")
  conv => whnf
  refine rdO_i er1 ?_
  conv => whnf
  refine br_i (fun hc => ?_) (fun hc => ?_)
  · have hc' : (1 : Int) < (((own ps b).map D.str).length : Nat) := of_decide_eq_true hc
    obtain ⟨j, ej⟩ := List.getElem?_of_mem mo
    have lj := (List.getElem?_eq_some_iff.mp ej).1
    have hj2 : (j + 1) % (own ps b).length < (own ps b).length := Nat.mod_lt _ (by omega)
    obtain ⟨other, eo⟩ : ∃ y, (own ps b)[(j + 1) % (own ps b).length]? = some y := ⟨_, List.getElem?_eq_getElem hj2⟩
    have mother := List.mem_of_getElem? eo
    have ne : one ≠ other := fun e => by
      have := nodup_at nx ej (by rw [e]; exact eo)
      by_cases e2 : j + 1 = (own ps b).length
      · rw [e2, Nat.mod_self] at this; omega
      · rw [Nat.mod_eq_of_lt (by omega)] at this; omega
    have go : getAt ((own ps b).map D.str) (((j : Nat) + 1 : Int) % (((own ps b).map D.str).length : Nat)) = some (.str other) := getAt_map (i := (j + 1) % (own ps b).length) (by rw [List.getElem?_map, eo]; rfl) (by rw [l2]; rfl)
    have T1 := C.tk_other hr mo mother ne
    have T2 := C.tk_same mo mother ne ef
    generalize hD : t.d = td
    walk_at "go"
    refine idx_i (own ps b) j rfl ej (fun m hm e => ?_) ?_
    · have := nodup_at nx e ej
      omega
    walk_at "go"
    rename_i h2 e2 l2 k2 h3 e3 l3 k3
    subst hD
    have e3' : h3[q9]? = some (.lst ([[(one, D.str other)], [(one, D.str fr), (other, D.str fr)]].map tkD)) := e3
    have k13 : Keep [q9] h1 h3 := by walk_at "keep"
    have A := asked_10 (n := n) (r := r) (X := X) (Q := Q) (h := h3) (x4 := x4) (x8 := x8) (x10 := some (.str other)) (x11 := x11) (x12 := x12) (tk := [[(one, D.str other)], [(one, .str fr), (other, .str fr)]]) hn C hr (pl1.mono k13 (by simp; omega) (by simp; omega)) mo ef hs e3' (by omega) (by omega) (fun prs m => by
      rcases List.mem_cons.mp m with rfl | m
      · exact T1
      · rw [List.mem_singleton.mp m]; exact T2) (by simp) fun h' a k => W1 h3 h' k13 a k
    exact A
  · refine nil_i ?_
    exact asked_10 (tk := []) hn C hr pl1 mo ef hs e9 (by omega) (by omega) (fun _ m => absurd m List.not_mem_nil) (by simp) fun h' a k => W1 h1 h' Keep.refl a k
end

end Lw

set_option Elab.async false
set_option linter.all false
set_option maxRecDepth 100000
set_option maxHeartbeats 1000000
namespace Lw
open PySem PySem.Spec PyProof.Rows L2 Mi
local macro_rules | `(tactic| walk_at "mem") => `(tactic| first | exact fun _ z => absurd z List.not_mem_nil | exact List.not_mem_nil | (intro i hi; simp only [List.mem_cons, List.not_mem_nil, or_false, false_or] at hi ⊢; omega) | (simp only [List.mem_cons, List.not_mem_nil, or_false, false_or, not_or]; omega))
local macro_rules | `(tactic| walk_at "get") => `(tactic| first | assumption | (apply Keep.get; assumption; walk_at "get"; walk_at "mem"))
local macro_rules | `(tactic| walk_at "keep") => `(tactic| first | assumption | exact Keep.refl | (apply Keep.step; assumption; walk_at "keep"; walk_at "mem"))
local macro_rules | `(tactic| walk_at "one") => `(tactic| (conv => whnf) <;> first
  | (apply br_t; rfl)
  | (apply br_f; rfl)
  | (apply rdO_i; walk_at "get")
  | (apply itm_i; first | rfl | assumption | exact getAt_end _ _)
  | (apply gtD_i; assumption)
  | (apply new_i; intro p h' e1 l1 l2 l3 k)
  | (apply put_i; walk_at "get"; intro h' e1 l1 k)
  | (apply iLst_i; first | rfl | exact intsOf_map _)
  | (apply chk_i; first | rfl | exact lenOk_le (by simp only [List.length_map, List.length_cons, List.length_append, List.length_take, List.length_nil, List.length_replicate, List.length_dropLast]; omega) | exact small_lt (by simp only [List.length_map, List.length_cons, List.length_append, List.length_take, List.length_nil, List.length_replicate, List.length_dropLast]; omega) | assumption | exact mulOk_r (by decide) | exact mulOk_l (by decide) | exact lenOk_le (by omega) | exact small_lt (by omega) | (simp; omega)))
local macro_rules | `(tactic| walk_at "go") => `(tactic| (repeat walk_at "one"); try (conv => whnf))
local macro_rules | `(tactic| walk_at "br") => `(tactic| (refine br_i (fun hc => ?_) (fun hc => ?_) <;> simp only [Bool.not_eq_true', Bool.not_eq_false', beq_iff_eq, beq_eq_false_iff_ne, ne_eq, decide_eq_true_eq, decide_eq_false_iff_not, bne_iff_ne, bne_eq_false_iff_eq] at hc) <;> first | (exfalso; omega) | walk_at "go")

section
variable {n p c r nr : Nat} {t : Tr} {P : Pt} {z : Str} {ps : List Str} {b : List St} {h : Hh} {Q : Kd} {X : Ex}
def bads : List D := [.str w_hold, .str w_, .str w_9a, .str w_toolonger9, .non, .int 3, .bl true, .tup [.str w_a], .str w_Up, .str w_a_b, .str w_a_]
theorem bads_ok : ∀ d ∈ bads, kS d = true ∧ (∀ z, d = .str z → z.length ≤ 100) ∧ isNm d = false := by
  intro d m
  simp only [bads, List.mem_cons, List.not_mem_nil, or_false] at m
  rcases m with rfl | rfl | rfl | rfl | rfl | rfl | rfl | rfl | rfl | rfl | rfl <;> refine ⟨rfl, fun z e => ?_, by decide⟩ <;> cases e <;> decide
theorem asked_17 {one fr st : Str} {bad : D} {x4 x9 x10 x11 x12 : Option D} (hn : 40 ≤ n) (C : Ctx t P z ps b nr) (hr : nr < 100000) (pl : Pl h p c nr) (mo : one ∈ own ps b) (ef : isNm (.str fr) = true) (hs : st ∉ own ps b)
    (er : h[r]? = some (.lst ((own ps b).map .str))) (hb : bad ∈ bads)
    (w : ∀ h', Pl h' p c nr → Keep [p] h h' → Q (.bl true) h') : wB gls (rn n) X c_law_asked_17 (R0 Q) [some (.ref p), some t.d, some (.str z), some (.ref r), x4, some (.str fr), some (.tup [.str st, .str fr]), some (.str one), some bad, x9, x10, x11, x12] h := by
  obtain ⟨q1, q2, q3⟩ := bads_ok bad hb
  generalize hD : t.d = td
  walk_at "go"
  subst hD
  refine td_name (prs := [(one, bad)]) (by omega) C (fun q m => by rw [List.mem_singleton.mp m]; exact ⟨q1, q2⟩) (by simp) (fine_bad (p := (one, bad)) List.mem_cons_self q3) fun h1 k1 => ?_
  have A := asked_15 (n := n) (r := r) (X := X) (Q := Q) (x4 := x4) (x8 := some bad) (x9 := x9) (x10 := x10) (x11 := x11) (x12 := x12) (h := h) hn C hr pl mo ef hs er
  have B : ∀ h2, Keep [] h h2 → wB gls (rn n) X c_law_asked_15 (R0 Q) [some (.ref p), some t.d, some (.str z), some (.ref r), x4, some (.str fr), some (.tup [.str st, .str fr]), some (.str one), some bad, x9, x10, x11, x12] h2 := fun h2 k2 =>
    asked_15 hn C hr (pl.mono k2 List.not_mem_nil List.not_mem_nil) mo ef hs (k2.get er List.not_mem_nil) fun h' a k => w h' a (by walk_at "keep")
  generalize hD : t.d = td at B ⊢
  walk_at "go"
  refine same_ref (by omega) fun h2 k2 => ?_
  conv => whnf
  refine br_f rfl ?_
  exact nil_i (B h2 (by walk_at "keep"))
theorem asked_19 {one fr st : Str} {bad : D} {x4 x9 x10 x11 x12 : Option D} (hn : 40 ≤ n) (C : Ctx t P z ps b nr) (hr : nr < 90000) (pl : Pl h p c nr) (rp : r ≠ p) (mo : one ∈ own ps b) (ef : isNm (.str fr) = true) (hs : st ∉ own ps b)
    (er : h[r]? = some (.lst ((own ps b).map .str))) (hb : bad ∈ bads)
    (w : ∀ nr' h', Pl h' p c (nr' : Nat) → nr ≤ nr' → nr' ≤ nr + 1 → Keep [p] h h' → Q (.bl true) h') : wB gls (rn n) X c_law_asked_19 (R0 Q) [some (.ref p), some t.d, some (.str z), some (.ref r), x4, some (.str fr), some (.tup [.str st, .str fr]), some (.str one), some bad, x9, x10, x11, x12] h := by
  have s1 := pl.lt
  generalize hD : t.d = td
  walk_at "go"
  refine name_ok pl (by omega) (by omega) fun y h1 ny pl1 l1 k1 => ?_
  have ey : isNm (.str y) = true := nm_ok ny (by omega)
  walk_at "go"
  subst hD
  refine td_name (prs := [(one, .str fr), (one, .str y)]) (by omega) C (fun q m => ?_) (by simp) fine_two fun h2 k2 => ?_
  · rcases List.mem_cons.mp m with rfl | m
    · exact str_k ef
    · rw [List.mem_singleton.mp m]; exact str_k ey
  have B : ∀ h3, Keep [] h1 h3 → wB gls (rn n) X c_law_asked_17 (R0 Q) [some (.ref p), some t.d, some (.str z), some (.ref r), x4, some (.str fr), some (.tup [.str st, .str fr]), some (.str one), some bad, x9, x10, x11, x12] h3 := fun h3 k3 =>
    asked_17 (nr := nr + 1) hn (C.mono (Nat.le_add_right _ 1)) (by omega) (pl1.mono k3 List.not_mem_nil List.not_mem_nil) mo ef hs (k3.get (k1.get er (by simp; exact rp)) List.not_mem_nil) hb fun h' a k => w (nr + 1) h' a (Nat.le_add_right _ 1) (Nat.le_refl _) (by walk_at "keep")
  generalize hD : t.d = td at B ⊢
  walk_at "go"
  refine same_ref (by omega) fun h3 k3 => ?_
  conv => whnf
  refine br_f rfl ?_
  exact nil_i (B h3 (by walk_at "keep"))
theorem asked_23 {fr st : Str} {x4 x7 x8 x9 x10 x11 x12 : Option D} (hn : 40 ≤ n) (C : Ctx t P z ps b nr) (hr : nr < 90000) (pl : Pl h p c nr) (rp : r ≠ p) (ef : isNm (.str fr) = true) (hs : st ∉ own ps b)
    (er : h[r]? = some (.lst ((own ps b).map .str)))
    (w : ∀ nr' h', Pl h' p c (nr' : Nat) → nr ≤ nr' → nr' ≤ nr + 1 → Keep [p] h h' → Q (.bl true) h') : wB gls (rn n) X c_law_asked_23 (R0 Q) [some (.ref p), some t.d, some (.str z), some (.ref r), x4, some (.str fr), some (.tup [.str st, .str fr]), x7, x8, x9, x10, x11, x12] h := by
  have s1 := pl.lt
  have s2 := lt_of er
  have ln := C.ln
  have l2 : ((own ps b).map D.str).length = (own ps b).length := List.length_map ..
  conv => whnf
  refine rdO_i er ?_
  conv => whnf
  refine br_i (fun hc => ?_) (fun hc => ?_)
  · have := w nr h pl (Nat.le_refl _) (Nat.le_add_right _ 1) Keep.refl
    walk_at "go"
    exact this
  have hc' : ((((own ps b).map D.str).length : Nat) : Int) ≠ 0 := beq_eq_false_iff_ne.mp hc
  generalize hD : t.d = td
  conv => whnf
  refine rdO_i er ?_
  conv => whnf
  refine take_ok (m := (((own ps b).map D.str).length : Nat)) pl (by omega) (by omega) (by omega) fun a h1 a0 a1 pl1 l1 k1 => ?_
  obtain ⟨one, mo, gf⟩ := getAt_ok (f := D.str) (xs := own ps b) (v := a) a0 (by omega)
  have er1 := k1.get er (by simp; exact rp)
  conv => whnf
  refine rdO_i er1 ?_
  conv => whnf
  refine itm_i gf ?_
  walk_at "go"
  refine take_ok (m := 11) pl1 (by decide) (by decide) (by omega) fun v h2 v0 v1 pl2 l2 k2 => ?_
  obtain ⟨bad, mb, gb⟩ := getAt_ok (f := fun x => x) (xs := bads) (v := v) v0 (by show v < 11; omega)
  rw [List.map_id'] at gb
  subst hD
  have B := asked_19 (n := n) (r := r) (X := X) (Q := Q) (x4 := x4) (x9 := x9) (x10 := x10) (x11 := x11) (x12 := x12) hn C hr pl2 rp mo ef hs (k2.get er1 (by simp; exact rp)) mb fun nr' h' a a1 a2 k => w nr' h' a a1 a2 (by walk_at "keep")
  generalize hD : t.d = td at B ⊢
  conv => whnf
  refine itm_i gb ?_
  exact B
end

end Lw

set_option Elab.async false
set_option linter.all false
set_option maxRecDepth 100000
set_option maxHeartbeats 1000000
namespace Lw
open PySem PySem.Spec PyProof.Rows L2 Mi
local macro_rules | `(tactic| walk_at "mem") => `(tactic| first | exact fun _ z => absurd z List.not_mem_nil | exact List.not_mem_nil | (intro i hi; simp only [List.mem_cons, List.not_mem_nil, or_false, false_or] at hi ⊢; omega) | (simp only [List.mem_cons, List.not_mem_nil, or_false, false_or, not_or]; omega))
local macro_rules | `(tactic| walk_at "get") => `(tactic| first | assumption | (apply Keep.get; assumption; walk_at "get"; walk_at "mem"))
local macro_rules | `(tactic| walk_at "keep") => `(tactic| first | assumption | exact Keep.refl | (apply Keep.step; assumption; walk_at "keep"; walk_at "mem"))
local macro_rules | `(tactic| walk_at "one") => `(tactic| (conv => whnf) <;> first
  | (apply br_t; rfl)
  | (apply br_f; rfl)
  | (apply rdO_i; walk_at "get")
  | (apply itm_i; first | rfl | assumption | exact getAt_end _ _)
  | (apply gtD_i; assumption)
  | (apply new_i; intro p h' e1 l1 l2 l3 k)
  | (apply put_i; walk_at "get"; intro h' e1 l1 k)
  | (apply iLst_i; first | rfl | exact intsOf_map _)
  | (apply chk_i; first | rfl | exact lenOk_le (by simp only [List.length_map, List.length_cons, List.length_append, List.length_take, List.length_nil, List.length_replicate, List.length_dropLast]; omega) | exact small_lt (by simp only [List.length_map, List.length_cons, List.length_append, List.length_take, List.length_nil, List.length_replicate, List.length_dropLast]; omega) | assumption | exact mulOk_r (by decide) | exact mulOk_l (by decide) | exact lenOk_le (by omega) | exact small_lt (by omega) | (simp; omega)))
local macro_rules | `(tactic| walk_at "go") => `(tactic| (repeat walk_at "one"); try (conv => whnf))
local macro_rules | `(tactic| walk_at "br") => `(tactic| (refine br_i (fun hc => ?_) (fun hc => ?_) <;> simp only [Bool.not_eq_true', Bool.not_eq_false', beq_iff_eq, beq_eq_false_iff_ne, ne_eq, decide_eq_true_eq, decide_eq_false_iff_not, bne_iff_ne, bne_eq_false_iff_eq] at hc) <;> first | (exfalso; omega) | walk_at "go")

theorem gd_nul (x : Str) : gd nul x = x := rfl
theorem dueT_nil (t : Tr) (z : Str) : dueT t z (tabP (prsOf [])) = t := by
  have e0 : tabP (prsOf []) = nul := rfl
  rw [e0]
  have e1 : t.funs.map (dF z nul) = t.funs := map_same fun g _ => by
    unfold dF
    split
    · rw [srens_id, show g.2.1.map (gd nul) = g.2.1 from map_same fun x _ => gd_nul x]
    · rfl
  have e2 : t.ons.map (dO z nul) = t.ons := map_same fun g _ => by
    unfold dO
    split
    · rw [srens_id]
    · rfl
  unfold dueT
  rw [e1, e2, srens_id]
  split <;> rfl
section
variable {n p c r nr : Nat} {t : Tr} {P : Pt} {z : Str} {ps : List Str} {b : List St} {h : Hh} {Q : Kd} {X : Ex}
theorem asked_ok (hn : 41 ≤ n) (C : Ctx t P z ps b nr) (hr : nr < 80000) (hl4 : (own ps b).length < 3400) (pl : Pl h p c nr) (rp : r ≠ p ∧ r ≠ c) (er : h[r]? = some (.lst ((own ps b).map .str)))
    (w : ∀ nr' h', Pl h' p c (nr' : Nat) → nr ≤ nr' → nr' ≤ nr + 3510 → Keep [p] h h' → Q (.bl true) h') : rn n i_law_asked [.ref p, t.d, .str z, .ref r] h Q X := by
  cases n with
  | zero => omega
  | succ n =>
    have s1 := pl.lt
    have s2 := lt_of er
    have ln := C.ln
    refine u_law_asked ?_
    generalize hD : t.d = td
    walk_at "go"
    refine pairs_ok (by omega) pl (by omega) er rp C.nx C.hx ln fun qs nr1 h1 g lq pl1 r1 r2 k1 => ?_
    have er1 := k1.get er (by simp; exact rp.1)
    have G := C.gq g (by omega)
    have gk := G.k
    have C1 := C.mono r1
    walk_at "go"
    subst hD
    refine td_told (nr := nr1) (by omega) (by omega) C1 G (by omega) fun h2 k2 => ?_
    have gg := due_gr t z (tabP (prsOf qs))
    generalize hU : dueT t z (tabP (prsOf qs)) = u at gg ⊢
    generalize hD : t.d = td at gg ⊢
    walk_at "go"
    refine prsD_i (prsOf qs) (prsOf_D qs).symm (by rw [sizeLine_eq]; unfold prsOf; rw [List.length_map]; omega) ?_
    walk_at "go"
    rename_i q h3 e3 g1 g2 g3 k3
    have dt := dt_pairs e3 (by rw [prsOf_olds]; exact gk) (fun p m => by
      obtain ⟨q, _, rfl⟩ := List.mem_map.mp m
      exact ⟨q.2, rfl⟩)
    subst hD
    refine due_ok (by omega) C.o C.nm dt fun h4 k4 => ?_
    rw [hU]
    generalize hD : t.d = td at gg ⊢
    walk_at "go"
    subst hD
    refine same_told (t := t) (by omega) C.o gg fun h5 k5 => ?_
    have k15 : Keep [] h1 h5 := by walk_at "keep"
    clear hU gg dt
    generalize hD : t.d = td
    conv => whnf
    refine br_f rfl ?_
    walk_at "go"
    subst hD
    refine td_told (nr := nr1) (qs := []) (by omega) (by omega) C1 gq_nil (by simp) fun h6 k6 => ?_
    rw [dueT_nil]
    generalize hD : t.d = td
    walk_at "go"
    subst hD
    refine same_told (t := t) (u := t) (by omega) C.o rfl fun h7 k7 => ?_
    have k17 : Keep [] h1 h7 := by walk_at "keep"
    have pl7 := pl1.mono k17 List.not_mem_nil List.not_mem_nil
    generalize hD : t.d = td
    conv => whnf
    refine br_f rfl ?_
    walk_at "go"
    refine name_ok pl7 (by omega) (by omega) fun fr h8 nf pl8 l8 k8 => ?_
    have F := C1.fresh nf (Nat.lt_succ_self _) (by omega)
    walk_at "go"
    refine name_ok pl8 (by omega) (by omega) fun st h9 ns pl9 l9 k9 => ?_
    have F2 := C1.fresh ns (by omega) (by omega)
    have e : qs.map qD ++ [D.tup [.str st, .str fr]] = (prsOf qs ++ [(st, D.str fr)]).map gpD := by rw [List.map_append, prsOf_D]; rfl
    have lqs : (qs.map qD).length = qs.length := List.length_map ..
    walk_at "go"
    rw [e]
    subst hD
    refine td_name (nr := nr1) (by omega) C1 (fun q m => ?_) (by unfold prsOf; simp only [List.length_append, List.length_map, List.length_singleton]; omega) (fine_app F2.2.1) fun h10 k10 => ?_
    · rcases List.mem_append.mp m with m | m
      · exact prs_k G (fun x m => C1.own_nm (by omega) m) q m
      · rw [List.mem_singleton.mp m]; exact str_k F.1
    have B : ∀ h11, Keep [] h9 h11 → wB gls (rn n) X c_law_asked_23 (R0 Q) [some (.ref p), some t.d, some (.str z), some (.ref r), some (.tup (qs.map qD)), some (.str fr), some (.tup [.str st, .str fr]), none, none, none, none, none, none] h11 := fun h11 k11 => by
      have k711 : Keep [p] h7 h11 := by walk_at "keep"
      have k011 : Keep [p] h h11 := by
        have := k1.len
        have := k17.len
        walk_at "keep"
      refine asked_23 (nr := nr1 + 1 + 1) (by omega) (C1.mono (by omega)) (by omega) (pl9.mono k11 List.not_mem_nil List.not_mem_nil) rp.1 F.1 F2.2.1 (k011.get er (by simp; exact rp.1)) fun nr' h' a a1 a2 k => w nr' h' a (by omega) (by omega) (by walk_at "keep")
    generalize hD : t.d = td at B ⊢
    walk_at "go"
    refine same_ref (by omega) fun h11 k11 => ?_
    conv => whnf
    refine br_f rfl ?_
    exact nil_i (B h11 (by walk_at "keep"))
end

end Lw

set_option Elab.async false
set_option linter.all false
set_option maxRecDepth 100000
set_option maxHeartbeats 1000000
namespace Lw
open PySem PySem.Spec PyProof.Rows L2 Mi
local macro_rules | `(tactic| walk_at "mem") => `(tactic| first | exact fun _ z => absurd z List.not_mem_nil | exact List.not_mem_nil | (intro i hi; simp only [List.mem_cons, List.not_mem_nil, or_false, false_or] at hi ⊢; omega) | (simp only [List.mem_cons, List.not_mem_nil, or_false, false_or, not_or]; omega))
local macro_rules | `(tactic| walk_at "get") => `(tactic| first | assumption | (apply Keep.get; assumption; walk_at "get"; walk_at "mem"))
local macro_rules | `(tactic| walk_at "keep") => `(tactic| first | assumption | exact Keep.refl | (apply Keep.step; assumption; walk_at "keep"; walk_at "mem"))
local macro_rules | `(tactic| walk_at "one") => `(tactic| (conv => whnf) <;> first
  | (apply br_t; rfl)
  | (apply br_f; rfl)
  | (apply rdO_i; walk_at "get")
  | (apply itm_i; first | rfl | assumption | exact getAt_end _ _)
  | (apply gtD_i; assumption)
  | (apply new_i; intro p h' e1 l1 l2 l3 k)
  | (apply put_i; walk_at "get"; intro h' e1 l1 k)
  | (apply iLst_i; first | rfl | exact intsOf_map _)
  | (apply chk_i; first | rfl | exact lenOk_le (by simp only [List.length_map, List.length_cons, List.length_append, List.length_take, List.length_nil, List.length_replicate, List.length_dropLast]; omega) | exact small_lt (by simp only [List.length_map, List.length_cons, List.length_append, List.length_take, List.length_nil, List.length_replicate, List.length_dropLast]; omega) | assumption | exact mulOk_r (by decide) | exact mulOk_l (by decide) | exact lenOk_le (by omega) | exact small_lt (by omega) | (simp; omega)))
local macro_rules | `(tactic| walk_at "go") => `(tactic| (repeat walk_at "one"); try (conv => whnf))
local macro_rules | `(tactic| walk_at "br") => `(tactic| (refine br_i (fun hc => ?_) (fun hc => ?_) <;> simp only [Bool.not_eq_true', Bool.not_eq_false', beq_iff_eq, beq_eq_false_iff_ne, ne_eq, decide_eq_true_eq, decide_eq_false_iff_not, bne_iff_ne, bne_eq_false_iff_eq] at hc) <;> first | (exfalso; omega) | walk_at "go")
theorem pool_ok {n m : Nat} {ns : List Int} {h : Hh} {Q : Kd} {X : Ex} (hn : 1 ≤ n) (e : h[m]? = some (.frz (ns.map D.int))) (hl : ns.length < 1000) (w : ∀ p c h', Pl h' p c 0 → Q (.ref p) h') : rn n i_law_pool [.ref m] h Q X := by
  cases n with
  | zero => omega
  | succ n =>
    refine u_law_pool ?_
    walk_at "go"
    rename_i c h1 e1 g1 g2 g3 k1
    refine map_i D.int (fun n : Int => D.int (if n < 0 then -n else n)) ns e1 (by omega) (fun x hx h2 K N k2 hK => ?_) fun h2 e2 k2 => ?_
    · walk_at "go"
      exact hK _ Keep.refl
    · have := k2.len
      walk_at "go"
      rename_i p h3 e3 g4 g5 g6 k3
      refine w p c h3 ⟨by omega, 0, 0, 70877, ns.map (fun n => if n < 0 then -n else n), by omega, by rw [List.length_map]; exact hl, e3, ?_⟩
      rw [k3.get e2 List.not_mem_nil, List.map_map]
      rfl


def hB : List St := [.var w_t (.op .add (.nam w_a) (.nam w_c)), .ret (.nam w_b)]
def hM : List St := [.var w_a .inn, .out (.nam w_a)]
def hS : Tr := ⟨[(w_c, 5)], [(w_f, [w_a, w_b], hB)], [], hM⟩
def hB2 : List St := [.var w_z9 (.op .add (.nam w_b) (.nam w_c)), .ret (.nam w_a)]
def hM2 : List St := [.var w_f .inn, .out (.nam w_f)]
def hG : Tr := ⟨[(w_c, 5)], [(w_f, [w_b, w_a], hB2)], [], hM⟩
def hH : Tr := ⟨[(w_c, 5)], [(w_f, [w_a, w_b], hB)], [], hM2⟩
theorem hS_nm : hS.nm := ⟨by decide, by decide, fun o m => absurd m List.not_mem_nil, by decide, by decide, by decide⟩
theorem hS_ap : hS.ap := ⟨by decide, by decide, by decide⟩
theorem hB_ok : bOk hB := by
  refine bOk_i ?_ ?_ ?_
  · simp [hB, St.fits, St.fit, Ep.fit, Ep.ht]
  · simp [hB, St.bht, St.ht]
  · simp [hB, St.ds, St.d, Ep.d, gr, grs]
theorem hM_ok : bOk hM := by
  refine bOk_i ?_ ?_ ?_
  · simp [hM, St.fits, St.fit, Ep.fit, Ep.ht]
  · simp [hM, St.bht, St.ht]
  · simp [hM, St.ds, St.d, Ep.d, gr, grs]
theorem hF_at : Pt.at_ hS (.fn 0) = some (w_fun_f, [w_a, w_b], hB) := rfl
theorem hM_at : Pt.at_ hS .main = some (w_main, [], hM) := rfl
def h1P : List (Str × D) := [(w_a, .str w_b), (w_b, .str w_a), (w_t, .str w_z9)]
def h2P : List (Str × D) := [(w_t, .str w_c)]
def h3P : List (Str × D) := [(w_a, .str w_f)]
theorem h1f : fine (own [w_a, w_b] hB) h1P = true := by decide +kernel
theorem h2f : fine (own [w_a, w_b] hB) h2P = true := by decide +kernel
theorem h3f : fine (own [] hM) h3P = true := by decide +kernel
theorem h1c : clash hS ((own [w_a, w_b] hB).map (gd (tabP h1P))) = false := by decide +kernel
theorem h2c : clash hS ((own [w_a, w_b] hB).map (gd (tabP h2P))) = true := by decide +kernel
theorem h3c : clash hS ((own [] hM).map (gd (tabP h3P))) = false := by decide +kernel
theorem g1a : gd (tabP h1P) w_a = w_b := rfl
theorem g1b : gd (tabP h1P) w_b = w_a := rfl
theorem g1t : gd (tabP h1P) w_t = w_z9 := rfl
theorem g1c : gd (tabP h1P) w_c = w_c := rfl
theorem g3a : gd (tabP h3P) w_a = w_f := rfl
theorem h1_put : Pt.put hS ([w_a, w_b].map (gd (tabP h1P))) (St.rens (gd (tabP h1P)) (gd nul) hB) (.fn 0) = hG := by
  have e1 : St.rens (gd (tabP h1P)) (gd nul) hB = hB2 := by simp only [hB, St.rens, St.ren, Ep.ren, g1a, g1b, g1t, g1c, hB2]
  have e2 : [w_a, w_b].map (gd (tabP h1P)) = [w_b, w_a] := by simp only [List.map_cons, List.map_nil, g1a, g1b]
  rw [e1, e2]
  rfl
theorem h3_put : Pt.put hS ([].map (gd (tabP h3P))) (St.rens (gd (tabP h3P)) (gd nul) hM) .main = hH := by
  have e1 : St.rens (gd (tabP h3P)) (gd nul) hM = hM2 := by simp only [hM, St.rens, St.ren, Ep.ren, g3a, hM2]
  rw [e1]
  rfl
theorem kS2 {ps : List (Str × Str)} (h : ∀ p ∈ ps, p.2.length ≤ 100) : ∀ p ∈ prsOf ps, kS p.2 = true ∧ ∀ z, p.2 = .str z → z.length ≤ 100 := fun p m => by
  obtain ⟨q, mq, rfl⟩ := List.mem_map.mp m
  exact ⟨rfl, fun z e => by cases e; exact h q mq⟩
section
variable {n : Nat} {h : Hh} {Q : Kd} {X : Ex}
theorem same2 {d : D} (hn : 1 ≤ n) (hp : pln d = true) (hg : gr d < 10000000) (w : ∀ h', Keep [] h h' → Q (.bl true) h') : rn n i_law_same [d, d] h Q X := same_ok hn hp hg fun h' _ k => w h' k
theorem hand_0 {x1 : Option D} (hn : 35 ≤ n) (w : ∀ h', Keep [] h h' → Q (.bl true) h') : wB gls (rn n) X c_law_hand_0 (R0 Q) [some hS.d, x1] h := by
  have RL : ∀ (h : Hh) (Q : Kd), (∀ h', Keep [] h h' → Q hH.d h') → rn n i_renamed_locals [hS.d, .str w_main, .tup [.tup [.str w_a, .str w_f]]] h Q X := fun h Q w =>
    rl_ok (t := hS) (P := .main) (ps := []) (b := hM) (prs := h3P) (by omega) hS_nm hS_ap hM_at hM_ok (by decide) (by decide) (kS2 (ps := [(w_a, w_f)]) (by decide)) (by decide)
      (fun _ _ h' k => by rw [h3_put]; exact w h' k) (fun f => absurd f (by rw [h3f]; decide)) (fun _ c => absurd c (by rw [h3c]; decide))
  have S1 : ∀ (h : Hh) (Q : Kd), (∀ h', Keep [] h h' → Q (.bl true) h') → rn n i_law_same [bD hM2, .tup [.tup [.str w_var, .str w_f, .tup [.str w_in]], .tup [.str w_out, .tup [.str w_name, .str w_f]]]] h Q X := fun h Q w => same2 (d := bD hM2) (by omega) (bD_pln _) (by simp [bD, hM2, St.ds, St.d, Ep.d, gr, grs]) w
  have eH : hH.d = .tup [.tup (hH.cells.map cD), .tup (hH.funs.map fuD), .tup (hH.ons.map oD), bD hM2] := rfl
  rw [eH] at RL
  generalize hS.d = S at RL ⊢
  generalize bD hM2 = M at RL S1
  generalize D.tup (hH.cells.map cD) = C at RL
  generalize D.tup (hH.funs.map fuD) = F at RL
  generalize D.tup (hH.ons.map oD) = O at RL
  walk_at "go"
  refine RL _ _ fun h1 k1 => ?_
  walk_at "go"
  exact S1 _ _ fun h2 k2 => w h2 (by walk_at "keep")
theorem hand_2 {x1 : Option D} (hn : 35 ≤ n) (w : ∀ h', Keep [] h h' → Q (.bl true) h') : wB gls (rn n) X c_law_hand_2 (R0 Q) [some hS.d, x1] h := by
  have T1 : ∀ (h : Hh) (Q : Kd), (∀ h', Keep [] h h' → Q (refused w_taken) h') → rn n i_law_tried [hS.d, .str w_fun_f, .tup [.tup [.str w_t, .str w_c]]] h Q X := fun h Q w =>
    td_ok (t := hS) (P := .fn 0) (ps := [w_a, w_b]) (b := hB) (prs := h2P) (by omega) hS_nm hS_ap hF_at hB_ok (by decide) (by decide) (kS2 (ps := [(w_t, w_c)]) (by decide)) (by decide)
      (fun _ c => absurd c (by rw [h2c]; decide)) (fun f => absurd f (by rw [h2f]; decide)) (fun _ _ => w)
  have T2 : ∀ (h : Hh) (Q : Kd), (∀ h', Keep [] h h' → Q (refused w_part) h') → rn n i_law_tried [hS.d, .str w_cell_c, .tup []] h Q X := fun h Q w =>
    td_no (t := hS) (by omega) hS_nm hS_ap rfl (fun z e => by cases e; decide) w
  have S1 : ∀ (h : Hh) (Q : Kd), (∀ h', Keep [] h h' → Q (.bl true) h') → rn n i_law_same [refused w_taken, .tup [.str w_refused, .str w_taken]] h Q X := fun h Q w => same_ref (by omega) w
  have S2 : ∀ (h : Hh) (Q : Kd), (∀ h', Keep [] h h' → Q (.bl true) h') → rn n i_law_same [refused w_part, .tup [.str w_refused, .str w_part]] h Q X := fun h Q w => same_ref (by omega) w
  have H0 : ∀ h, (∀ h', Keep [] h h' → Q (.bl true) h') → wB gls (rn n) X c_law_hand_0 (R0 Q) [some hS.d, x1] h := fun h w => hand_0 hn w
  generalize hS.d = S at T1 T2 H0 ⊢
  generalize refused w_taken = R1 at T1 S1
  generalize refused w_part = R2 at T2 S2
  walk_at "go"
  refine T1 _ _ fun h1 k1 => ?_
  walk_at "go"
  refine S1 _ _ fun h2 k2 => ?_
  walk_at "go"
  refine T2 _ _ fun h3 k3 => ?_
  walk_at "go"
  refine S2 _ _ fun h4 k4 => ?_
  conv => whnf
  refine br_f rfl ?_
  exact H0 _ fun h5 k5 => w h5 (by walk_at "keep")
theorem hand_4 (hn : 35 ≤ n) (w : ∀ h', Keep [] h h' → Q (.bl true) h') : wB gls (rn n) X c_law_hand_4 (R0 Q) [some hS.d, some hG.d] h := by
  have RL : ∀ (h : Hh) (Q : Kd), (∀ h', Keep [] h h' → Q hG.d h') → rn n i_renamed_locals [hS.d, .str w_fun_f, .tup [.tup [.str w_a, .str w_b], .tup [.str w_b, .str w_a], .tup [.str w_t, .str w_z9]]] h Q X := fun h Q w =>
    rl_ok (t := hS) (P := .fn 0) (ps := [w_a, w_b]) (b := hB) (prs := h1P) (by omega) hS_nm hS_ap hF_at hB_ok (by decide) (by decide) (kS2 (ps := [(w_a, w_b), (w_b, w_a), (w_t, w_z9)]) (by decide)) (by decide)
      (fun _ _ h' k => by rw [h1_put]; exact w h' k) (fun f => absurd f (by rw [h1f]; decide)) (fun _ c => absurd c (by rw [h1c]; decide))
  have S1 : ∀ (h : Hh) (Q : Kd), (∀ h', Keep [] h h' → Q (.bl true) h') → rn n i_law_same [hG.d, hG.d] h Q X := fun h Q w => same2 (by omega) (tr_pln _) (by simp [Tr.d, hG, hB2, hM, cD, fuD, oD, bD, St.ds, St.d, Ep.d, gr, grs]) w
  have H0 : ∀ h, (∀ h', Keep [] h h' → Q (.bl true) h') → wB gls (rn n) X c_law_hand_2 (R0 Q) [some hS.d, some hG.d] h := fun h w => hand_2 hn w
  generalize hS.d = S at RL H0 ⊢
  generalize hG.d = G at RL S1 H0 ⊢
  walk_at "go"
  refine RL _ _ fun h1 k1 => ?_
  walk_at "go"
  refine S1 _ _ fun h2 k2 => ?_
  conv => whnf
  refine br_f rfl ?_
  exact H0 _ fun h3 k3 => w h3 (by walk_at "keep")
end
theorem hand_ok {n : Nat} {h : Hh} {Q : Kd} {X : Ex} (hn : 36 ≤ n) (w : ∀ h', Keep [] h h' → Q (.bl true) h') : rn n i_law_hand [] h Q X := by
  cases n with
  | zero => omega
  | succ n =>
    refine u_law_hand ?_
    refine asgP (d := hS.d) rfl ?_
    refine asgP (d := hG.d) rfl ?_
    exact hand_4 (by omega) w

end Lw

set_option Elab.async false
set_option linter.all false
set_option maxRecDepth 100000
set_option maxHeartbeats 1000000
namespace Lw
open PySem PySem.Spec PyProof.Rows L2 Mi
local macro_rules | `(tactic| walk_at "mem") => `(tactic| first | exact fun _ z => absurd z List.not_mem_nil | exact List.not_mem_nil | (intro i hi; simp only [List.mem_cons, List.not_mem_nil, or_false, false_or] at hi ⊢; omega) | (simp only [List.mem_cons, List.not_mem_nil, or_false, false_or, not_or]; omega))
local macro_rules | `(tactic| walk_at "get") => `(tactic| first | assumption | (apply Keep.get; assumption; walk_at "get"; walk_at "mem"))
local macro_rules | `(tactic| walk_at "keep") => `(tactic| first | assumption | exact Keep.refl | (apply Keep.step; assumption; walk_at "keep"; walk_at "mem"))
local macro_rules | `(tactic| walk_at "one") => `(tactic| (conv => whnf) <;> first
  | (apply br_t; rfl)
  | (apply br_f; rfl)
  | (apply rdO_i; walk_at "get")
  | (apply itm_i; first | rfl | assumption | exact getAt_end _ _)
  | (apply gtD_i; assumption)
  | (apply new_i; intro p h' e1 l1 l2 l3 k)
  | (apply put_i; walk_at "get"; intro h' e1 l1 k)
  | (apply iLst_i; first | rfl | exact intsOf_map _)
  | (apply chk_i; first | rfl | exact lenOk_le (by simp only [List.length_map, List.length_cons, List.length_append, List.length_take, List.length_nil, List.length_replicate, List.length_dropLast]; omega) | exact small_lt (by simp only [List.length_map, List.length_cons, List.length_append, List.length_take, List.length_nil, List.length_replicate, List.length_dropLast]; omega) | assumption | exact mulOk_r (by decide) | exact mulOk_l (by decide) | exact lenOk_le (by omega) | exact small_lt (by omega) | (simp; omega)))
local macro_rules | `(tactic| walk_at "go") => `(tactic| (repeat walk_at "one"); try (conv => whnf))
local macro_rules | `(tactic| walk_at "br") => `(tactic| (refine br_i (fun hc => ?_) (fun hc => ?_) <;> simp only [Bool.not_eq_true', Bool.not_eq_false', beq_iff_eq, beq_eq_false_iff_ne, ne_eq, decide_eq_true_eq, decide_eq_false_iff_not, bne_iff_ne, bne_eq_false_iff_eq] at hc) <;> first | (exfalso; omega) | walk_at "go")

section
variable {t : Tr} {nr : Nat}
theorem nm_of (o : t.ok) (lv : ∀ o ∈ t.ons, (0 : Int) ≤ o.1 ∧ o.1 ≤ 4) (tn : TN nr t) (hr : nr < 100000) : t.nm := by
  have key : ∀ {x : Str}, (∃ k, k ≤ nr ∧ Nm x k) → x.length ≤ 100 := fun ⟨k, h1, h2⟩ => by
    have := (h2.len8 (by omega)).2
    omega
  exact ⟨fun c m => key (tn.c _ (List.mem_map_of_mem m)), fun f m => key (tn.f f m _ (by simp)), fun o m => ⟨(lv o m).1, by have := (lv o m).2; omega⟩, o.c, o.f, o.o⟩
theorem ctx_i {P : Pt} {z : Str} {ps : List Str} {b : List St} (o : t.ok) (nm : t.nm) (ap : t.ap) (tn : TN nr t) (e : P.at_ t = some (z, ps, b)) (bo : bOk b) (hps : ps.length ≤ 3)
    (ln : (own ps b).length ≤ 3000) (nd : (t.cells.map (·.1) ++ own ps b).Nodup) (hx : ∀ x ∈ own ps b, ∃ k, k ≤ nr ∧ Nm x k) (xf : ∀ f ∈ t.funs, f.1 ∉ own ps b) : Ctx t P z ps b nr := by
  obtain ⟨n1, n2, n3⟩ := List.nodup_append.mp nd
  exact ⟨o, nm, ap, e, bo, hps, by omega, n2, hx, fun c m => tn.c _ (List.mem_map_of_mem m), fun c m h => n3 _ (List.mem_map_of_mem m) _ h rfl, fun f m => tn.f f m _ (by simp), fun f m => ⟨xf f m, fun c mc e => tn.xc f m (by rw [← e]; exact List.mem_map_of_mem mc)⟩⟩
theorem ctx_of (o : t.ok) (g : t.good) (lv : ∀ o ∈ t.ons, (0 : Int) ≤ o.1 ∧ o.1 ≤ 4) (nd : (t.ons.map (·.1)).Nodup) (tn : TN nr t) (hr : nr < 100000) {x : Str × List Str} (m : x ∈ partsOf t) : ∃ P ps b, Ctx t P x.1 ps b nr ∧ x.2 = own ps b ∧ (own ps b).length ≤ 3000 := by
  have nm := nm_of o lv tn hr
  have ap : t.ap := ⟨g.cn, g.fn, nd⟩
  obtain ⟨P, ps, b, e, e2, hh⟩ := partsOf_at m
  refine ⟨P, ps, b, ?_, e2, ?_⟩
  · rcases hh with ⟨f, mf, rfl, rfl⟩ | ⟨rfl, ⟨f, mf, rfl⟩ | rfl⟩
    · have h1 := (g.fg f mf).1
      rw [List.append_assoc] at h1
      exact ctx_i o nm ap tn e (o.fb f mf).2 (o.fb f mf).1.1 (tn.lf f mf) h1 (fun x hx => tn.f f mf x (by unfold own at hx; rcases List.mem_append.mp hx with q | q <;> simp [q])) (fun u mu => tn.xf u mu f mf)
    · exact ctx_i o nm ap tn e (o.ob f mf) (by decide) (tn.lo f mf) (g.og f mf).1 (fun x hx => tn.o f mf x hx) (fun u mu => tn.xo u mu f mf)
    · exact ctx_i o nm ap tn e o.m (by decide) tn.lm g.mg.1 (fun x hx => tn.m x hx) (fun u mu => tn.xm u mu)
  · rcases hh with ⟨f, mf, rfl, rfl⟩ | ⟨rfl, ⟨f, mf, rfl⟩ | rfl⟩
    · exact tn.lf f mf
    · exact tn.lo f mf
    · exact tn.lm
def wrongs : List D := [.str w_fun_zz9, .str w_on_9, .str w_mains, .str w_cell_cz9, .str w_, .non, .int 4, .tup [.str w_main], .str w_fun, .str w_on_1_]
def wrs : List Str := [w_fun_zz9, w_on_9, w_mains, w_cell_cz9, w_, w_fun, w_on_1_]
theorem wr_kS : ∀ d ∈ wrongs, kS d = true := by decide
theorem wr_z : ∀ d ∈ wrongs, ∀ z, d = .str z → z ∈ wrs := by
  intro d m z e
  subst e
  simp only [wrongs, List.mem_cons, D.str.injEq, List.not_mem_nil, or_false, reduceCtorEq, false_or] at m
  simp only [wrs, List.mem_cons, List.not_mem_nil, or_false]
  exact m
/-- no name of a part begins so -/
def begF (xs : List Nat) : Bool := match xs with | 102 :: 117 :: 110 :: 32 :: _ :: c :: _ => decide (48 ≤ c ∧ c ≤ 57) | _ => false
theorem wr_f : ∀ z ∈ wrs, begF z.cps.toList = false := by decide
theorem wr_o : ∀ z ∈ wrs, ∀ i, i < 5 → w_on_ ++ st (i : Nat) ≠ z := by decide +kernel
theorem wr_m : w_main ∉ wrs := by decide
theorem wr_no (lv : ∀ o ∈ t.ons, (0 : Int) ≤ o.1 ∧ o.1 ≤ 4) (tn : TN nr t) : ∀ d ∈ wrongs, ∀ z, d = .str z → z ∉ t.funs.map pnF ++ t.ons.map pnO ++ [w_main] := by
  intro d md z ez m
  have mz := wr_z d md z ez
  rcases List.mem_append.mp m with m | m
  · rcases List.mem_append.mp m with m | m
    · obtain ⟨f, mf, rfl⟩ := List.mem_map.mp m
      obtain ⟨k, _, hk⟩ := tn.f f mf f.1 (by simp)
      obtain ⟨a, c, r, e1, e2, e3⟩ := hk.second
      have h1 := wr_f _ mz
      have h2 : (pnF f).cps.toList = 102 :: 117 :: 110 :: 32 :: a :: c :: r := by
        unfold pnF
        rw [codes_app, e1]
        rfl
      rw [h2] at h1
      have h3 : begF (102 :: 117 :: 110 :: 32 :: a :: c :: r) = decide (48 ≤ c ∧ c ≤ 57) := rfl
      rw [h3, decide_eq_true ⟨e2, e3⟩] at h1
      cases h1
    · obtain ⟨f, mf, rfl⟩ := List.mem_map.mp m
      obtain ⟨l1, l2⟩ := lv f mf
      obtain ⟨i, hi⟩ : ∃ i : Nat, f.1 = i := ⟨f.1.toNat, by omega⟩
      refine wr_o _ mz i (by omega) ?_
      unfold pnO
      rw [hi]
  · rw [List.mem_singleton.mp m] at mz
    exact wr_m mz
end
theorem getAt_D {xs : List D} {v : Int} (h0 : 0 ≤ v) (h1 : v < xs.length) : ∃ x, x ∈ xs ∧ getAt xs v = some x := by
  obtain ⟨x, m, e⟩ := getAt_ok (f := id) (xs := xs) h0 h1
  rw [List.map_id] at e
  exact ⟨x, m, e⟩
theorem parts_len2 (t : Tr) : (partsOf t).length = t.funs.length + t.ons.length + 1 := by
  unfold partsOf
  simp only [List.length_append, List.length_map, List.length_singleton]
abbrev lev : Nat := 60
theorem main (ns : List Int) (hns : ns.length ≤ 63) : run gls (pds.map (·.m)) lev i_law [.ref 0] [.frz (ns.map D.int)] (fun d _ => d = .bl true) EX0 := by
  suffices H : ∀ n X, 50 ≤ n → rn n i_law [.ref 0] [.frz (ns.map D.int)] (fun d _ => d = .bl true) X from H lev EX0 (by decide)
  intro n X hn
  cases n with
  | zero => omega
  | succ n =>
    refine u_law ?_
    walk_at "go"
    refine pool_ok (by omega) (ns := ns) rfl (by omega) fun p c h1 pl1 => ?_
    walk_at "go"
    refine hand_ok (by omega) fun h2 k2 => ?_
    have pl2 := pl1.mono k2 List.not_mem_nil List.not_mem_nil
    walk_at "one"
    walk_at "one"
    refine loop_i (I := fun r σ h' => ∃ (nr : Nat) (x2 x3 x4 x5 x6 x7 : Option D), σ = [some (.ref 0), some (.ref p), x2, x3, x4, x5, x6, x7] ∧ r.length ≤ 3 ∧ Pl h' p c (nr : Int) ∧ nr ≤ 13000 * (3 - r.length)) ?_ ?_ _ _ _ ⟨0, _, _, _, _, _, _, rfl, ?_, pl2, by omega⟩
    · rintro x r σ h3 K ⟨nr, x2, x3, x4, x5, x6, x7, rfl, lr, pl3, r1⟩ hK
      simp only [List.length_cons] at lr r1
      walk_at "go"
      refine tree_ok (by omega) pl3 (by omega) fun t nr4 h4 ⟨o4, g4, _, lv4, nd4, tn4⟩ pl4 r2 r3 k4 => ?_
      have nm4 := nm_of o4 lv4 tn4 (by omega)
      have ap4 : t.ap := ⟨g4.cn, g4.fn, nd4⟩
      have c1 := o4.f
      have c2 := o4.o
      have PA : ∀ (h : Hh) (Q : Kd), (∀ q pl h', h'[q]? = some (.lst (pl.map prtD)) → pl.map nmOf = partsOf t → Lay h' h.length pl → h.length ≤ q → Keep [] h h' → Q (.ref q) h') → rn n i_law_parts [t.d] h Q X := fun h Q w => parts_ok (by omega) o4 nm4 w
      have AS : ∀ (x : Str × Nat × List Str) (nr5 : Nat) (h : Hh) (Q : Kd), nmOf x ∈ partsOf t → nr4 ≤ nr5 → nr5 < 80000 → Pl h p c nr5 → (x.2.1 ≠ p ∧ x.2.1 ≠ c) → h[x.2.1]? = some (.lst (x.2.2.map .str)) → (∀ (nr' : Nat) (h' : Hh), Pl h' p c nr' → nr5 ≤ nr' → nr' ≤ nr5 + 3510 → Keep [p] h h' → Q (.bl true) h') → rn n i_law_asked [.ref p, t.d, .str x.1, .ref x.2.1] h Q X := by
        intro x nr5 h Q m l1 l2 pl rp e w
        obtain ⟨P, ps, b, C, e2, ln⟩ := ctx_of o4 g4 lv4 nd4 tn4 (by omega) m
        have e3 : x.2.2 = own ps b := e2
        rw [e3] at e
        exact asked_ok (by omega) (C.mono l1) l2 (by omega) pl rp e w
      have TD : ∀ (d y : D) (h : Hh) (Q : Kd), d ∈ wrongs → (∀ h', Keep [] h h' → Q (refused w_part) h') → rn n i_law_tried [t.d, d, y] h Q X := fun d y h Q m w =>
        td_no (by omega) nm4 ap4 (wr_kS d m) (wr_no lv4 tn4 d m) w
      have lp4 := parts_len2 t
      have s4 := pl4.lt
      generalize t.d = T at PA AS TD ⊢
      walk_at "go"
      refine PA _ _ fun q pl h5 e5 en ly lq k5 => ?_
      have lq5 := lt_of e5
      have ll : (pl.map prtD).length = pl.length := List.length_map ..
      have lpl : pl.length = (partsOf t).length := by rw [← en, List.length_map]
      have pl5 := pl4.mono k5 List.not_mem_nil List.not_mem_nil
      obtain ⟨y, my, gl⟩ : ∃ y, y ∈ pl ∧ getAt (pl.map prtD) (-1) = some (.tup [.str y.1, .ref y.2.1]) := by
        have hne : pl ≠ [] := fun z => by rw [z] at lpl; simp only [List.length_nil] at lpl; omega
        refine ⟨pl.getLast hne, List.getLast_mem hne, ?_⟩
        have e : pl.map prtD = (pl.dropLast.map prtD) ++ [prtD (pl.getLast hne)] := by
          conv => lhs; rw [← List.dropLast_concat_getLast hne]
          rw [List.map_append]
          rfl
        rw [e]
        exact getAt_end _ _
      have inP : ∀ {x : Str × Nat × List Str}, x ∈ pl → nmOf x ∈ partsOf t := fun m => by rw [← en]; exact List.mem_map_of_mem m
      walk_at "go"
      refine take_ok (m := ((pl.map prtD).length : Nat)) pl5 (by omega) (by omega) (by omega) fun v h6 v0 v1 pl6 l6 k6 => ?_
      obtain ⟨x, mx, ga'⟩ := getAt_ok (f := prtD) (xs := pl) v0 (by omega)
      have ga : getAt (pl.map prtD) v = some (.tup [.str x.1, .ref x.2.1]) := ga'
      have ly6 := ly.mono (lo2 := h4.length) k6 (by simp; omega) (Nat.le_refl _)
      have eq6 := k6.get e5 (by simp; omega)
      obtain ⟨ex, lx⟩ := ly6 x mx
      walk_at "go"
      refine AS x nr4 _ _ (inP mx) (Nat.le_refl _) (by omega) pl6 (by omega) ex fun nr7 h7 pl7 r4 r5 k7 => ?_
      have ly7 := ly6.mono (lo2 := h4.length) k7 (by simp; omega) (Nat.le_refl _)
      have eq7 := k7.get eq6 (by simp; omega)
      obtain ⟨ey, lyy⟩ := ly7 y my
      walk_at "go"
      refine AS y nr7 _ _ (inP my) r4 (by omega) pl7 (by omega) ey fun nr8 h8 pl8 r6 r7 k8 => ?_
      walk_at "go"
      refine take_ok (m := 10) pl8 (by decide) (by decide) (by omega) fun u h9 u0 u1 pl9 l9 k9 => ?_
      obtain ⟨d, md, gd⟩ := getAt_D (xs := wrongs) u0 u1
      conv => whnf
      refine itm_i gd ?_
      walk_at "go"
      refine TD d _ _ _ md fun h10 k10 => ?_
      have SM : ∀ (h : Hh) (Q : Kd), (∀ h', Keep [] h h' → Q (.bl true) h') → rn n i_law_same [refused w_part, .tup [.str w_refused, .str w_part]] h Q X := fun h Q w => same_ref (by omega) w
      generalize refused w_part = R at SM ⊢
      walk_at "go"
      refine SM _ _ fun h11 k11 => ?_
      walk_at "go"
      exact hK _ _ ⟨nr8, _, _, _, _, _, _, rfl, by omega, (pl9.mono k10 List.not_mem_nil List.not_mem_nil).mono k11 List.not_mem_nil List.not_mem_nil, by omega⟩
    · rintro σ h3 ⟨nr, x2, x3, x4, x5, x6, x7, rfl, lr, pl3, r1⟩
      walk_at "go"
    · rw [range_len]; decide

end Lw

namespace Lw
open PySem PySem.Spec PyProof.Rows L2 Mi
abbrev R : PySem.W.OpenRow := PySem.W.OpenLaw.row PySem.Challenge.rw_placesforgood_k27_locals_renamed
abbrev hk : PySem.W.Hook := hookM 6 cns pds xds hns
def ob (s : PySem.W.SharedT) : He.AlD := obsMG 6 cns pds (HandSHeadRun.getT s) xds hns
theorem ob_eq (s : PySem.W.SharedT) : ob s = hk.obs s.abs := obsMG_eq (HandSHeadRun.getT_eq s)
def loose : List PySem.Str := [("inner_expressions" : PySem.Str), ("with_inner" : PySem.Str), ("own_expressions" : PySem.Str), ("own_blocks" : PySem.Str), ("with_own" : PySem.Str), ("all_statements" : PySem.Str), ("only_signs" : PySem.Str), ("is_name" : PySem.Str), ("part_names" : PySem.Str), ("part_number" : PySem.Str), ("locals_of" : PySem.Str), ("turned_expression" : PySem.Str), ("turned_names" : PySem.Str), ("parameters_and_block" : PySem.Str), ("with_part" : PySem.Str), ("look_at_pairs" : PySem.Str), ("renamed_locals" : PySem.Str), ("_law_pool" : PySem.Str), ("_law_take" : PySem.Str), ("_law_same" : PySem.Str), ("_law_name" : PySem.Str), ("_law_expression" : PySem.Str), ("_law_block" : PySem.Str), ("_law_tree" : PySem.Str), ("_law_in_expression" : PySem.Str), ("_law_in_block" : PySem.Str), ("_law_vars" : PySem.Str), ("_law_parts" : PySem.Str), ("_law_due" : PySem.Str), ("_law_tried" : PySem.Str), ("_law_pairs" : PySem.Str), ("_law_asked" : PySem.Str), ("_law_hand" : PySem.Str), ("PAIRED" : PySem.Str), ("MOST_NAME" : PySem.Str), ("FIGURES" : PySem.Str), ("SMALL" : PySem.Str), ("KEPT" : PySem.Str), ("PlaceError" : PySem.Str), ("CallError" : PySem.Str), ("BadStep" : PySem.Str)]
theorem run_top (w : World) : HandSHeadRun.RunEq R (PySem.W.view R.prog [48]) hk ob 3000 loose w := by
  intro os
  kernel_rfl
end Lw
open PySem PySem.W PySem.Calls PyProof.Rows
set_option maxRecDepth 100000 in
set_option maxHeartbeats 0 in
theorem PySem.Challenge.cw_placesforgood_k27_locals_renamed_holds : PySem.Challenge.rw_placesforgood_k27_locals_renamed.Holds := by
  w_on; o_law
  refine HandSHeadRun.head_any (r := OpenLaw.row PySem.Challenge.rw_placesforgood_k27_locals_renamed) (q := view (OpenLaw.row PySem.Challenge.rw_placesforgood_k27_locals_renamed).prog [48]) (H := Lw.hk) (ob := Lw.ob) (M := 3000) (loose := Lw.loose) (d := HandSHeadRun.topDef (OpenLaw.row PySem.Challenge.rw_placesforgood_k27_locals_renamed).prog 48) (kwd := []) Lw.ob_eq
    (by kernel_rfl) (fun s => by kernel_rfl) Lw.run_top (by kernel_rfl) (by kernel_rfl) (by kernel_rfl) (by rfl) (by first | assumption | decide +kernel) (by decide +kernel) ⟨rfl, rfl, rfl, rfl, rfl, by decide +kernel⟩ ?hw ?hc
  case hw => w_witness2
  case hc =>
    refine L2.walk_ofE (l := PySem.Challenge.rw_placesforgood_k27_locals_renamed) (n := 63) (k := Lw.lev + 2) (x := "script") (CX := L2.CX0) rfl (by decide) (by kernel_rfl) ⟨rfl, by decide, by decide⟩ ?F (fun _ _ _ _ z => z)
    intro w mg fa h Y G hmg0
    have hmg : mg ("law" : PySem.Str) = some (.ref fa) := by
      have e : (HandSHeadRun.topDef (OpenLaw.row PySem.Challenge.rw_placesforgood_k27_locals_renamed).prog 48).name = ("law" : PySem.Str) := by kernel_rfl
      rw [← e]
      exact hmg0
    exact Mi.law_F (p := ⟨"law", Lw.topS 48, ["script", "pool", "lap", "tree", "parts", "part", "own", "wrong"], Lw.m_law⟩) (iL := 33) Y G hmg rfl rfl Lw.all_chk Lw.all_xs Lw.main

